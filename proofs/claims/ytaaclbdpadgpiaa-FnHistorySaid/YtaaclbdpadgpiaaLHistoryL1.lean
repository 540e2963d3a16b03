/- The printed functions are what the program comes to: contracts. -/
import Derived.Test.YtaaclbdpadgpiaaLHistoryL0
namespace Go.AE.F
open Go.AE Go.Proofs
set_option maxRecDepth 100000
noncomputable def spec_l01Src_some.con (N : Nat) : Con := { modes := [.io], ptrs := [false], fn := fun ds k => match ds with | [d0] => castDm (.pair (.sl 5 (.int .u8)) (.pair (.int .i64) (.pair (.int .u64) (.pair (.int .i64) .unit)))) .imm d0 fun x0 => bindO (spec_l01Src_some N x0) fun r => k [⟨(.sl 2 (.int .i64)), (.own .imm), r.1⟩] [⟨(.pair (.sl 5 (.int .u8)) (.pair (.int .i64) (.pair (.int .u64) (.pair (.int .i64) .unit)))), .imm, r.2⟩] | _ => none }
noncomputable def spec_l01Src_some.cfg (N : Nat) : Cfg := { ty := tys, keep := [11, 12, 14, 17, 19, 21, 25], flt := [], elm := [(22, (.own .imm)), (23, (.own (.own .imm))), (24, (.own .imm)), (25, (.pr (.own (.own .imm)) (.pr .imm (.pr (.own .imm) .imm)))), (26, (.pr (.own (.own .imm)) (.pr .imm (.pr (.own .imm) .imm)))), (37, (.pr (.pr (.own (.own .imm)) (.pr .imm (.pr (.own .imm) .imm))) (.pr (.own .imm) .imm))), (38, (.pr (.pr (.own (.own .imm)) (.pr .imm (.pr (.own .imm) .imm))) (.pr (.own .imm) .imm))), (54, (.pr (.own .imm) .imm)), (55, (.pr (.own .imm) .imm)), (58, (.own .imm))], live := [], ord := [], con := [((33, [.one, .one]), spec_l01Src_n.con N), ((34, [.one, .one]), spec_l01Src_points.con N), ((18, [.one, .one]), spec_l01Src_one.con N)], loops := [], joins := [] }
theorem spec_l01Src_some.cons (N : Nat) : ConsOk Try.prog (spec_l01Src_some.cfg N).con := (consOk_cons (hb33) (spec_l01Src_n.ok N) (spec_l01Src_n.det N) (consOk_cons (hb34) (spec_l01Src_points.ok N) (spec_l01Src_points.det N) (consOk_cons (hb18) (spec_l01Src_one.ok N) (spec_l01Src_one.det N) consOk_nil)))
theorem spec_l01Src_some.ls (N : Nat) : LoopsOk Try.prog (spec_l01Src_some.cfg N) (fnBody Try.f19) := loopsL (l := []) (by kernel_rfl) trivial
theorem spec_l01Src_some.b (N : Nat) (x0 : den (.pair (.sl 5 (.int .u8)) (.pair (.int .i64) (.pair (.int .u64) (.pair (.int .i64) .unit))))) : body (spec_l01Src_some.cfg N) N Try.f19 [.one] [.io] [(false, (.own .imm))] [⟨(.pair (.sl 5 (.int .u8)) (.pair (.int .i64) (.pair (.int .u64) (.pair (.int .i64) .unit)))), .imm, x0⟩] (fun r i => some (r, i)) = bindO (spec_l01Src_some N x0) fun r => some ([⟨(.sl 2 (.int .i64)), (.own .imm), r.1⟩], [⟨(.pair (.sl 5 (.int .u8)) (.pair (.int .i64) (.pair (.int .u64) (.pair (.int .i64) .unit)))), .imm, r.2⟩]) := by
  show _ = bindF _ _
  conv => rhs; simp only [spec_l01Src_some, bindF_ifB, bindF_bindO, bindF_pure, bindF_none, bindF_onSum]
  kernel_rfl
theorem spec_l01Src_some.ok (N : Nat) : ConOk Try.prog 19 [.one] (spec_l01Src_some.con N) := by
  refine conOk_mk (g := spec_l01Src_some.cfg N) (N := N) (res := [(false, (.own .imm))]) tys_ok (spec_l01Src_some.cons N) mixed Try.func19 (spec_l01Src_some.ls N) rfl rfl ?_
  intro ds R k y h
  cases ds with
  | nil => exact none_some h
  | cons d0 ds =>
  cases ds with
  | cons _ _ => exact none_some h
  | nil =>
  have h0 : (castDm (.pair (.sl 5 (.int .u8)) (.pair (.int .i64) (.pair (.int .u64) (.pair (.int .i64) .unit)))) .imm d0 fun x0 => bindO (spec_l01Src_some N x0) fun r => k [⟨(.sl 2 (.int .i64)), (.own .imm), r.1⟩] [⟨(.pair (.sl 5 (.int .u8)) (.pair (.int .i64) (.pair (.int .u64) (.pair (.int .i64) .unit)))), .imm, r.2⟩]) = some y := h
  clear h
  obtain ⟨x0, rfl, h1⟩ := castDm_eq h0
  exact con_fin (spec_l01Src_some.b N x0) h1
theorem spec_l01Src_some.det (N : Nat) : ConDet (spec_l01Src_some.con N) := by
  intro ds R k y h
  cases ds with
  | nil => exact none_some h
  | cons d0 ds =>
  cases ds with
  | cons _ _ => exact none_some h
  | nil =>
  have h0 : (castDm (.pair (.sl 5 (.int .u8)) (.pair (.int .i64) (.pair (.int .u64) (.pair (.int .i64) .unit)))) .imm d0 fun x0 => bindO (spec_l01Src_some N x0) fun r => k [⟨(.sl 2 (.int .i64)), (.own .imm), r.1⟩] [⟨(.pair (.sl 5 (.int .u8)) (.pair (.int .i64) (.pair (.int .u64) (.pair (.int .i64) .unit)))), .imm, r.2⟩]) = some y := h
  clear h
  obtain ⟨x0, rfl, h1⟩ := castDm_eq h0
  obtain ⟨r, e, h⟩ := bindO_some h1
  refine ⟨_, _, h, fun k' => ?_⟩
  show (castDm (.pair (.sl 5 (.int .u8)) (.pair (.int .i64) (.pair (.int .u64) (.pair (.int .i64) .unit)))) .imm (⟨(.pair (.sl 5 (.int .u8)) (.pair (.int .i64) (.pair (.int .u64) (.pair (.int .i64) .unit)))), .imm, x0⟩ : Dy) fun x0 => bindO (spec_l01Src_some N x0) fun r => k' [⟨(.sl 2 (.int .i64)), (.own .imm), r.1⟩] [⟨(.pair (.sl 5 (.int .u8)) (.pair (.int .i64) (.pair (.int .u64) (.pair (.int .i64) .unit)))), .imm, r.2⟩]) = _
  simp only [castDm_self]
  rw [e]
  rfl
noncomputable def spec_DrawHistAdd.con (N : Nat) : Con := { modes := [.v], ptrs := [false, false], fn := fun ds k => match ds with | [d0] => castDm (.sl 5 (.int .u8)) .imm d0 fun x0 => bindO (spec_DrawHistAdd N x0) fun r => k [⟨(.pair (.sl 24 (.sl 2 (.int .i64))) (.pair (.int .i64) (.pair (.sl 2 (.int .i64)) .unit))), (.pr (.own (.own .imm)) (.pr .imm (.pr (.own .imm) .imm))), r.1⟩, ⟨(.sl 2 (.int .i64)), (.own .imm), r.2⟩] [] | _ => none }
noncomputable def spec_DrawHistAdd.cfg (N : Nat) : Cfg := { ty := tys, keep := [7, 9, 11, 14, 17], flt := [], elm := [(22, (.own .imm)), (23, (.own (.own .imm))), (24, (.own .imm)), (25, (.pr (.own (.own .imm)) (.pr .imm (.pr (.own .imm) .imm)))), (26, (.pr (.own (.own .imm)) (.pr .imm (.pr (.own .imm) .imm)))), (37, (.pr (.pr (.own (.own .imm)) (.pr .imm (.pr (.own .imm) .imm))) (.pr (.own .imm) .imm))), (38, (.pr (.pr (.own (.own .imm)) (.pr .imm (.pr (.own .imm) .imm))) (.pr (.own .imm) .imm))), (54, (.pr (.own .imm) .imm)), (55, (.pr (.own .imm) .imm)), (58, (.own .imm))], live := [], ord := [(4, [0, 1, 2, 3, 4]), (5, [0, 1, 2, 3, 4])], con := [((16, [.one]), spec_l01Source.con N), ((17, [.one]), spec_l01Src_l06Hist.con N), ((18, [.one, .one]), spec_l01Src_one.con N), ((19, [.one]), spec_l01Src_some.con N), ((20, [.one]), spec_l01Src_l06Line.con N)], loops := [], joins := [] }
theorem spec_DrawHistAdd.cons (N : Nat) : ConsOk Try.prog (spec_DrawHistAdd.cfg N).con := (consOk_cons (hb16) (spec_l01Source.ok N) (spec_l01Source.det N) (consOk_cons (hb17) (spec_l01Src_l06Hist.ok N) (spec_l01Src_l06Hist.det N) (consOk_cons (hb18) (spec_l01Src_one.ok N) (spec_l01Src_one.det N) (consOk_cons (hb19) (spec_l01Src_some.ok N) (spec_l01Src_some.det N) (consOk_cons (hb20) (spec_l01Src_l06Line.ok N) (spec_l01Src_l06Line.det N) consOk_nil)))))
theorem spec_DrawHistAdd.ls (N : Nat) : LoopsOk Try.prog (spec_DrawHistAdd.cfg N) (fnBody Try.f4) := loopsL (l := []) (by kernel_rfl) trivial
theorem spec_DrawHistAdd.b (N : Nat) (x0 : den (.sl 5 (.int .u8))) : body (spec_DrawHistAdd.cfg N) N Try.f4 [.one] [.v] [(false, (.pr (.own (.own .imm)) (.pr .imm (.pr (.own .imm) .imm)))), (false, (.own .imm))] [⟨(.sl 5 (.int .u8)), .imm, x0⟩] (fun r i => some (r, i)) = bindO (spec_DrawHistAdd N x0) fun r => some ([⟨(.pair (.sl 24 (.sl 2 (.int .i64))) (.pair (.int .i64) (.pair (.sl 2 (.int .i64)) .unit))), (.pr (.own (.own .imm)) (.pr .imm (.pr (.own .imm) .imm))), r.1⟩, ⟨(.sl 2 (.int .i64)), (.own .imm), r.2⟩], []) := by
  show _ = bindF _ _
  conv => rhs; simp only [spec_DrawHistAdd, bindF_ifB, bindF_bindO, bindF_pure, bindF_none, bindF_onSum]
  kernel_rfl
theorem spec_DrawHistAdd.ok (N : Nat) : ConOk Try.prog 4 [.one] (spec_DrawHistAdd.con N) := by
  refine conOk_mk (g := spec_DrawHistAdd.cfg N) (N := N) (res := [(false, (.pr (.own (.own .imm)) (.pr .imm (.pr (.own .imm) .imm)))), (false, (.own .imm))]) tys_ok (spec_DrawHistAdd.cons N) mixed Try.func4 (spec_DrawHistAdd.ls N) rfl rfl ?_
  intro ds R k y h
  cases ds with
  | nil => exact none_some h
  | cons d0 ds =>
  cases ds with
  | cons _ _ => exact none_some h
  | nil =>
  have h0 : (castDm (.sl 5 (.int .u8)) .imm d0 fun x0 => bindO (spec_DrawHistAdd N x0) fun r => k [⟨(.pair (.sl 24 (.sl 2 (.int .i64))) (.pair (.int .i64) (.pair (.sl 2 (.int .i64)) .unit))), (.pr (.own (.own .imm)) (.pr .imm (.pr (.own .imm) .imm))), r.1⟩, ⟨(.sl 2 (.int .i64)), (.own .imm), r.2⟩] []) = some y := h
  clear h
  obtain ⟨x0, rfl, h1⟩ := castDm_eq h0
  exact con_fin (spec_DrawHistAdd.b N x0) h1
theorem spec_DrawHistAdd.det (N : Nat) : ConDet (spec_DrawHistAdd.con N) := by
  intro ds R k y h
  cases ds with
  | nil => exact none_some h
  | cons d0 ds =>
  cases ds with
  | cons _ _ => exact none_some h
  | nil =>
  have h0 : (castDm (.sl 5 (.int .u8)) .imm d0 fun x0 => bindO (spec_DrawHistAdd N x0) fun r => k [⟨(.pair (.sl 24 (.sl 2 (.int .i64))) (.pair (.int .i64) (.pair (.sl 2 (.int .i64)) .unit))), (.pr (.own (.own .imm)) (.pr .imm (.pr (.own .imm) .imm))), r.1⟩, ⟨(.sl 2 (.int .i64)), (.own .imm), r.2⟩] []) = some y := h
  clear h
  obtain ⟨x0, rfl, h1⟩ := castDm_eq h0
  obtain ⟨r, e, h⟩ := bindO_some h1
  refine ⟨_, _, h, fun k' => ?_⟩
  show (castDm (.sl 5 (.int .u8)) .imm (⟨(.sl 5 (.int .u8)), .imm, x0⟩ : Dy) fun x0 => bindO (spec_DrawHistAdd N x0) fun r => k' [⟨(.pair (.sl 24 (.sl 2 (.int .i64))) (.pair (.int .i64) (.pair (.sl 2 (.int .i64)) .unit))), (.pr (.own (.own .imm)) (.pr .imm (.pr (.own .imm) .imm))), r.1⟩, ⟨(.sl 2 (.int .i64)), (.own .imm), r.2⟩] []) = _
  simp only [castDm_self]
  rw [e]
  rfl
def spec_PointsRight.sk4 : Skel := ⟨[.pv (.sl 2 (.int .i64)), .dead, .dead, .pv (.int .i64), .dead, .dead, .dead, .dead, .dead, .dead, .dead, .dead, .dead, .dead, .dead, .dead, .dead, .dead, .dead], []⟩
def spec_PointsRight.xs4 : List XS := [⟨.exit 0, [], ⟨[.dead, .dead, .dead, .dead, .dead, .dead, .dead, .dead, .dead, .dead, .dead, .dead, .dead, .dead, .dead, .dead, .dead, .dead, .dead], []⟩⟩, ⟨.ret, [2], ⟨[.dead, .dead, .pv .bool, .dead, .dead, .dead, .dead, .dead, .dead, .dead, .dead, .dead, .dead, .dead, .dead, .dead, .dead, .dead, .dead], []⟩⟩]
noncomputable def spec_PointsRight.con (N : Nat) : Con := { modes := [.v], ptrs := [false], fn := fun ds k => match ds with | [d0] => castDm (.sl 2 (.int .i64)) .imm d0 fun x0 => bindO (spec_PointsRight N x0) fun r => k [⟨.bool, .imm, r⟩] [] | _ => none }
noncomputable def spec_PointsRight.cfg (N : Nat) : Cfg := { ty := tys, keep := [17], flt := [], elm := [(22, (.own .imm)), (23, (.own (.own .imm))), (24, (.own .imm)), (25, (.pr (.own (.own .imm)) (.pr .imm (.pr (.own .imm) .imm)))), (26, (.pr (.own (.own .imm)) (.pr .imm (.pr (.own .imm) .imm)))), (37, (.pr (.pr (.own (.own .imm)) (.pr .imm (.pr (.own .imm) .imm))) (.pr (.own .imm) .imm))), (38, (.pr (.pr (.own (.own .imm)) (.pr .imm (.pr (.own .imm) .imm))) (.pr (.own .imm) .imm))), (54, (.pr (.own .imm) .imm)), (55, (.pr (.own .imm) .imm)), (58, (.own .imm))], live := [(4, [0, 3])], ord := [], con := [((22, [.one]), spec_l01Point.con N)], loops := [(4, loopCon N spec_PointsRight.sk4 spec_PointsRight.xs4 (fun {R} => spec_PointsRight.l4 (R := R) N))], joins := [] }
theorem spec_PointsRight.cons (N : Nat) : ConsOk Try.prog (spec_PointsRight.cfg N).con := (consOk_cons (hb22) (spec_l01Point.ok N) (spec_l01Point.det N) consOk_nil)
theorem spec_PointsRight.h4 {R : Type} (N : Nat) (d : spec_PointsRight.sk4.D) (kn : spec_PointsRight.sk4.D → Option R) (kx : XD spec_PointsRight.xs4 → Option R) : roundK (spec_PointsRight.cfg N) N (nthLoop (fnBody Try.f6) 0) spec_PointsRight.sk4 spec_PointsRight.xs4 d kn kx = spec_PointsRight.l4 N d kn kx := by kernel_rfl
theorem spec_PointsRight.i4 (N : Nat) : LoopsOk Try.prog (spec_PointsRight.cfg N) (nthLoop (fnBody Try.f6) 0) := loopsL (l := []) (by kernel_rfl) trivial
theorem spec_PointsRight.o4 (N : Nat) : LoopOk Try.prog (nthLoop (fnBody Try.f6) 0) (loopCon N spec_PointsRight.sk4 spec_PointsRight.xs4 (fun {R} => spec_PointsRight.l4 (R := R) N)) := loop_ok (g := spec_PointsRight.cfg N) tys_ok (spec_PointsRight.cons N) mixed (spec_PointsRight.i4 N) (fun d kn kx => spec_PointsRight.h4 N d kn kx)
theorem spec_PointsRight.ls (N : Nat) : LoopsOk Try.prog (spec_PointsRight.cfg N) (fnBody Try.f6) := loopsL (l := [nthLoop (fnBody Try.f6) 0]) (by kernel_rfl) ⟨loopOne (L0 := loopCon N spec_PointsRight.sk4 spec_PointsRight.xs4 (fun {R} => spec_PointsRight.l4 (R := R) N)) (id := 4) (by kernel_rfl) (by kernel_rfl) (spec_PointsRight.o4 N), trivial⟩
theorem spec_PointsRight.q4 {R R' : Type} {N n : Nat} {d} {k} {g : R → Option R'} : bindF (loopP (spec_PointsRight.l4 N) n d k) g = loopP (spec_PointsRight.l4 N) n d fun e => bindF (k e) g := bindF_loopP (fun d kn kx => by simp only [spec_PointsRight.l4, bindF_ifB, bindF_bindO, bindF_pure, bindF_none, bindF_onSum]) n d k
theorem spec_PointsRight.b (N : Nat) (x0 : den (.sl 2 (.int .i64))) : body (spec_PointsRight.cfg N) N Try.f6 [.one] [.v] [(false, .imm)] [⟨(.sl 2 (.int .i64)), .imm, x0⟩] (fun r i => some (r, i)) = bindO (spec_PointsRight N x0) fun r => some ([⟨.bool, .imm, r⟩], []) := by
  show _ = bindF _ _
  conv => rhs; simp only [spec_PointsRight, bindF_ifB, bindF_bindO, bindF_pure, bindF_none, bindF_onSum, spec_PointsRight.q4]
  kernel_rfl
theorem spec_PointsRight.ok (N : Nat) : ConOk Try.prog 6 [.one] (spec_PointsRight.con N) := by
  refine conOk_mk (g := spec_PointsRight.cfg N) (N := N) (res := [(false, .imm)]) tys_ok (spec_PointsRight.cons N) mixed Try.func6 (spec_PointsRight.ls N) rfl rfl ?_
  intro ds R k y h
  cases ds with
  | nil => exact none_some h
  | cons d0 ds =>
  cases ds with
  | cons _ _ => exact none_some h
  | nil =>
  have h0 : (castDm (.sl 2 (.int .i64)) .imm d0 fun x0 => bindO (spec_PointsRight N x0) fun r => k [⟨.bool, .imm, r⟩] []) = some y := h
  clear h
  obtain ⟨x0, rfl, h1⟩ := castDm_eq h0
  exact con_fin (spec_PointsRight.b N x0) h1
theorem spec_PointsRight.det (N : Nat) : ConDet (spec_PointsRight.con N) := by
  intro ds R k y h
  cases ds with
  | nil => exact none_some h
  | cons d0 ds =>
  cases ds with
  | cons _ _ => exact none_some h
  | nil =>
  have h0 : (castDm (.sl 2 (.int .i64)) .imm d0 fun x0 => bindO (spec_PointsRight N x0) fun r => k [⟨.bool, .imm, r⟩] []) = some y := h
  clear h
  obtain ⟨x0, rfl, h1⟩ := castDm_eq h0
  obtain ⟨r, e, h⟩ := bindO_some h1
  refine ⟨_, _, h, fun k' => ?_⟩
  show (castDm (.sl 2 (.int .i64)) .imm (⟨(.sl 2 (.int .i64)), .imm, x0⟩ : Dy) fun x0 => bindO (spec_PointsRight N x0) fun r => k' [⟨.bool, .imm, r⟩] []) = _
  simp only [castDm_self]
  rw [e]
  rfl
def spec_l04Items.sk4 : Skel := ⟨[.pv (.sl 24 (.sl 2 (.int .i64))), .dead, .dead, .dead, .dead, .pv (.int .i64), .dead, .dead, .dead, .dead, .dead, .dead, .dead, .dead, .dead, .dead, .dead, .dead, .dead, .dead, .dead, .dead, .dead, .dead, .dead, .dead, .dead, .dead, .dead, .dead], []⟩
def spec_l04Items.xs4 : List XS := [⟨.exit 0, [], ⟨[.dead, .dead, .dead, .dead, .dead, .dead, .dead, .dead, .dead, .dead, .dead, .dead, .dead, .dead, .dead, .dead, .dead, .dead, .dead, .dead, .dead, .dead, .dead, .dead, .dead, .dead, .dead, .dead, .dead, .dead], []⟩⟩, ⟨.ret, [4], ⟨[.dead, .dead, .dead, .dead, .pv .bool, .dead, .dead, .dead, .dead, .dead, .dead, .dead, .dead, .dead, .dead, .dead, .dead, .dead, .dead, .dead, .dead, .dead, .dead, .dead, .dead, .dead, .dead, .dead, .dead, .dead], []⟩⟩]
noncomputable def spec_l04Items.con (N : Nat) : Con := { modes := [.v, .v], ptrs := [false], fn := fun ds k => match ds with | [d0, d1] => castDm (.sl 24 (.sl 2 (.int .i64))) .imm d0 fun x0 => castDm (.int .i64) .imm d1 fun x1 => bindO (spec_l04Items N x0 x1) fun r => k [⟨.bool, .imm, r⟩] [] | _ => none }
noncomputable def spec_l04Items.cfg (N : Nat) : Cfg := { ty := tys, keep := [27], flt := [], elm := [(22, (.own .imm)), (23, (.own (.own .imm))), (24, (.own .imm)), (25, (.pr (.own (.own .imm)) (.pr .imm (.pr (.own .imm) .imm)))), (26, (.pr (.own (.own .imm)) (.pr .imm (.pr (.own .imm) .imm)))), (37, (.pr (.pr (.own (.own .imm)) (.pr .imm (.pr (.own .imm) .imm))) (.pr (.own .imm) .imm))), (38, (.pr (.pr (.own (.own .imm)) (.pr .imm (.pr (.own .imm) .imm))) (.pr (.own .imm) .imm))), (54, (.pr (.own .imm) .imm)), (55, (.pr (.own .imm) .imm)), (58, (.own .imm))], live := [(4, [0, 5, 23, 24, 25, 26, 27, 28])], ord := [], con := [((6, [.one]), spec_PointsRight.con N)], loops := [(4, loopCon N spec_l04Items.sk4 spec_l04Items.xs4 (fun {R} => spec_l04Items.l4 (R := R) N))], joins := [] }
theorem spec_l04Items.cons (N : Nat) : ConsOk Try.prog (spec_l04Items.cfg N).con := (consOk_cons (hb6) (spec_PointsRight.ok N) (spec_PointsRight.det N) consOk_nil)
theorem spec_l04Items.h4 {R : Type} (N : Nat) (d : spec_l04Items.sk4.D) (kn : spec_l04Items.sk4.D → Option R) (kx : XD spec_l04Items.xs4 → Option R) : roundK (spec_l04Items.cfg N) N (nthLoop (fnBody Try.f21) 0) spec_l04Items.sk4 spec_l04Items.xs4 d kn kx = spec_l04Items.l4 N d kn kx := by kernel_rfl
theorem spec_l04Items.i4 (N : Nat) : LoopsOk Try.prog (spec_l04Items.cfg N) (nthLoop (fnBody Try.f21) 0) := loopsL (l := []) (by kernel_rfl) trivial
theorem spec_l04Items.o4 (N : Nat) : LoopOk Try.prog (nthLoop (fnBody Try.f21) 0) (loopCon N spec_l04Items.sk4 spec_l04Items.xs4 (fun {R} => spec_l04Items.l4 (R := R) N)) := loop_ok (g := spec_l04Items.cfg N) tys_ok (spec_l04Items.cons N) mixed (spec_l04Items.i4 N) (fun d kn kx => spec_l04Items.h4 N d kn kx)
theorem spec_l04Items.ls (N : Nat) : LoopsOk Try.prog (spec_l04Items.cfg N) (fnBody Try.f21) := loopsL (l := [nthLoop (fnBody Try.f21) 0]) (by kernel_rfl) ⟨loopOne (L0 := loopCon N spec_l04Items.sk4 spec_l04Items.xs4 (fun {R} => spec_l04Items.l4 (R := R) N)) (id := 4) (by kernel_rfl) (by kernel_rfl) (spec_l04Items.o4 N), trivial⟩
theorem spec_l04Items.q4 {R R' : Type} {N n : Nat} {d} {k} {g : R → Option R'} : bindF (loopP (spec_l04Items.l4 N) n d k) g = loopP (spec_l04Items.l4 N) n d fun e => bindF (k e) g := bindF_loopP (fun d kn kx => by simp only [spec_l04Items.l4, bindF_ifB, bindF_bindO, bindF_pure, bindF_none, bindF_onSum]) n d k
theorem spec_l04Items.b (N : Nat) (x0 : den (.sl 24 (.sl 2 (.int .i64)))) (x1 : den (.int .i64)) : body (spec_l04Items.cfg N) N Try.f21 [.one, .one] [.v, .v] [(false, .imm)] [⟨(.sl 24 (.sl 2 (.int .i64))), .imm, x0⟩, ⟨(.int .i64), .imm, x1⟩] (fun r i => some (r, i)) = bindO (spec_l04Items N x0 x1) fun r => some ([⟨.bool, .imm, r⟩], []) := by
  show _ = bindF _ _
  conv => rhs; simp only [spec_l04Items, bindF_ifB, bindF_bindO, bindF_pure, bindF_none, bindF_onSum, spec_l04Items.q4]
  kernel_rfl
theorem spec_l04Items.ok (N : Nat) : ConOk Try.prog 21 [.one, .one] (spec_l04Items.con N) := by
  refine conOk_mk (g := spec_l04Items.cfg N) (N := N) (res := [(false, .imm)]) tys_ok (spec_l04Items.cons N) mixed Try.func21 (spec_l04Items.ls N) rfl rfl ?_
  intro ds R k y h
  cases ds with
  | nil => exact none_some h
  | cons d0 ds =>
  cases ds with
  | nil => exact none_some h
  | cons d1 ds =>
  cases ds with
  | cons _ _ => exact none_some h
  | nil =>
  have h0 : (castDm (.sl 24 (.sl 2 (.int .i64))) .imm d0 fun x0 => castDm (.int .i64) .imm d1 fun x1 => bindO (spec_l04Items N x0 x1) fun r => k [⟨.bool, .imm, r⟩] []) = some y := h
  clear h
  obtain ⟨x0, rfl, h1⟩ := castDm_eq h0
  obtain ⟨x1, rfl, h2⟩ := castDm_eq h1
  exact con_fin (spec_l04Items.b N x0 x1) h2
theorem spec_l04Items.det (N : Nat) : ConDet (spec_l04Items.con N) := by
  intro ds R k y h
  cases ds with
  | nil => exact none_some h
  | cons d0 ds =>
  cases ds with
  | nil => exact none_some h
  | cons d1 ds =>
  cases ds with
  | cons _ _ => exact none_some h
  | nil =>
  have h0 : (castDm (.sl 24 (.sl 2 (.int .i64))) .imm d0 fun x0 => castDm (.int .i64) .imm d1 fun x1 => bindO (spec_l04Items N x0 x1) fun r => k [⟨.bool, .imm, r⟩] []) = some y := h
  clear h
  obtain ⟨x0, rfl, h1⟩ := castDm_eq h0
  obtain ⟨x1, rfl, h2⟩ := castDm_eq h1
  obtain ⟨r, e, h⟩ := bindO_some h2
  refine ⟨_, _, h, fun k' => ?_⟩
  show (castDm (.sl 24 (.sl 2 (.int .i64))) .imm (⟨(.sl 24 (.sl 2 (.int .i64))), .imm, x0⟩ : Dy) fun x0 => castDm (.int .i64) .imm (⟨(.int .i64), .imm, x1⟩ : Dy) fun x1 => bindO (spec_l04Items N x0 x1) fun r => k' [⟨.bool, .imm, r⟩] []) = _
  simp only [castDm_self]
  rw [e]
  rfl
noncomputable def spec_HistRight.con (N : Nat) : Con := { modes := [.v], ptrs := [false], fn := fun ds k => match ds with | [d0] => castDm (.pair (.sl 24 (.sl 2 (.int .i64))) (.pair (.int .i64) (.pair (.sl 2 (.int .i64)) .unit))) .imm d0 fun x0 => bindO (spec_HistRight N x0) fun r => k [⟨.bool, .imm, r⟩] [] | _ => none }
noncomputable def spec_HistRight.cfg (N : Nat) : Cfg := { ty := tys, keep := [5, 22], flt := [], elm := [(22, (.own .imm)), (23, (.own (.own .imm))), (24, (.own .imm)), (25, (.pr (.own (.own .imm)) (.pr .imm (.pr (.own .imm) .imm)))), (26, (.pr (.own (.own .imm)) (.pr .imm (.pr (.own .imm) .imm)))), (37, (.pr (.pr (.own (.own .imm)) (.pr .imm (.pr (.own .imm) .imm))) (.pr (.own .imm) .imm))), (38, (.pr (.pr (.own (.own .imm)) (.pr .imm (.pr (.own .imm) .imm))) (.pr (.own .imm) .imm))), (54, (.pr (.own .imm) .imm)), (55, (.pr (.own .imm) .imm)), (58, (.own .imm))], live := [], ord := [], con := [((21, [.one, .one]), spec_l04Items.con N), ((6, [.one]), spec_PointsRight.con N)], loops := [], joins := [] }
theorem spec_HistRight.cons (N : Nat) : ConsOk Try.prog (spec_HistRight.cfg N).con := (consOk_cons (hb21) (spec_l04Items.ok N) (spec_l04Items.det N) (consOk_cons (hb6) (spec_PointsRight.ok N) (spec_PointsRight.det N) consOk_nil))
theorem spec_HistRight.ls (N : Nat) : LoopsOk Try.prog (spec_HistRight.cfg N) (fnBody Try.f5) := loopsL (l := []) (by kernel_rfl) trivial
theorem spec_HistRight.b (N : Nat) (x0 : den (.pair (.sl 24 (.sl 2 (.int .i64))) (.pair (.int .i64) (.pair (.sl 2 (.int .i64)) .unit)))) : body (spec_HistRight.cfg N) N Try.f5 [.one] [.v] [(false, .imm)] [⟨(.pair (.sl 24 (.sl 2 (.int .i64))) (.pair (.int .i64) (.pair (.sl 2 (.int .i64)) .unit))), .imm, x0⟩] (fun r i => some (r, i)) = bindO (spec_HistRight N x0) fun r => some ([⟨.bool, .imm, r⟩], []) := by
  show _ = bindF _ _
  conv => rhs; simp only [spec_HistRight, bindF_ifB, bindF_bindO, bindF_pure, bindF_none, bindF_onSum]
  kernel_rfl
theorem spec_HistRight.ok (N : Nat) : ConOk Try.prog 5 [.one] (spec_HistRight.con N) := by
  refine conOk_mk (g := spec_HistRight.cfg N) (N := N) (res := [(false, .imm)]) tys_ok (spec_HistRight.cons N) mixed Try.func5 (spec_HistRight.ls N) rfl rfl ?_
  intro ds R k y h
  cases ds with
  | nil => exact none_some h
  | cons d0 ds =>
  cases ds with
  | cons _ _ => exact none_some h
  | nil =>
  have h0 : (castDm (.pair (.sl 24 (.sl 2 (.int .i64))) (.pair (.int .i64) (.pair (.sl 2 (.int .i64)) .unit))) .imm d0 fun x0 => bindO (spec_HistRight N x0) fun r => k [⟨.bool, .imm, r⟩] []) = some y := h
  clear h
  obtain ⟨x0, rfl, h1⟩ := castDm_eq h0
  exact con_fin (spec_HistRight.b N x0) h1
theorem spec_HistRight.det (N : Nat) : ConDet (spec_HistRight.con N) := by
  intro ds R k y h
  cases ds with
  | nil => exact none_some h
  | cons d0 ds =>
  cases ds with
  | cons _ _ => exact none_some h
  | nil =>
  have h0 : (castDm (.pair (.sl 24 (.sl 2 (.int .i64))) (.pair (.int .i64) (.pair (.sl 2 (.int .i64)) .unit))) .imm d0 fun x0 => bindO (spec_HistRight N x0) fun r => k [⟨.bool, .imm, r⟩] []) = some y := h
  clear h
  obtain ⟨x0, rfl, h1⟩ := castDm_eq h0
  obtain ⟨r, e, h⟩ := bindO_some h1
  refine ⟨_, _, h, fun k' => ?_⟩
  show (castDm (.pair (.sl 24 (.sl 2 (.int .i64))) (.pair (.int .i64) (.pair (.sl 2 (.int .i64)) .unit))) .imm (⟨(.pair (.sl 24 (.sl 2 (.int .i64))) (.pair (.int .i64) (.pair (.sl 2 (.int .i64)) .unit))), .imm, x0⟩ : Dy) fun x0 => bindO (spec_HistRight N x0) fun r => k' [⟨.bool, .imm, r⟩] []) = _
  simp only [castDm_self]
  rw [e]
  rfl
noncomputable def laws_lwCopy.con (N : Nat) : Con := { modes := [.v], ptrs := [false], fn := fun ds k => match ds with | [d0] => castDm (.sl 2 (.int .i64)) .imm d0 fun x0 => bindO (laws_lwCopy N x0) fun r => k [⟨(.sl 2 (.int .i64)), (.own .imm), r⟩] [] | _ => none }
noncomputable def laws_lwCopy.cfg (N : Nat) : Cfg := { ty := tys, keep := [], flt := [], elm := [(22, (.own .imm)), (23, (.own (.own .imm))), (24, (.own .imm)), (25, (.pr (.own (.own .imm)) (.pr .imm (.pr (.own .imm) .imm)))), (26, (.pr (.own (.own .imm)) (.pr .imm (.pr (.own .imm) .imm)))), (37, (.pr (.pr (.own (.own .imm)) (.pr .imm (.pr (.own .imm) .imm))) (.pr (.own .imm) .imm))), (38, (.pr (.pr (.own (.own .imm)) (.pr .imm (.pr (.own .imm) .imm))) (.pr (.own .imm) .imm))), (54, (.pr (.own .imm) .imm)), (55, (.pr (.own .imm) .imm)), (58, (.own .imm))], live := [], ord := [], con := [], loops := [], joins := [] }
theorem laws_lwCopy.cons (N : Nat) : ConsOk Try.prog (laws_lwCopy.cfg N).con := consOk_nil
theorem laws_lwCopy.ls (N : Nat) : LoopsOk Try.prog (laws_lwCopy.cfg N) (fnBody Try.f8) := loopsL (l := []) (by kernel_rfl) trivial
theorem laws_lwCopy.b (N : Nat) (x0 : den (.sl 2 (.int .i64))) : body (laws_lwCopy.cfg N) N Try.f8 [.one] [.v] [(false, (.own .imm))] [⟨(.sl 2 (.int .i64)), .imm, x0⟩] (fun r i => some (r, i)) = bindO (laws_lwCopy N x0) fun r => some ([⟨(.sl 2 (.int .i64)), (.own .imm), r⟩], []) := by
  show _ = bindF _ _
  conv => rhs; simp only [laws_lwCopy, bindF_ifB, bindF_bindO, bindF_pure, bindF_none, bindF_onSum]
  kernel_rfl
theorem laws_lwCopy.ok (N : Nat) : ConOk Try.prog 8 [.one] (laws_lwCopy.con N) := by
  refine conOk_mk (g := laws_lwCopy.cfg N) (N := N) (res := [(false, (.own .imm))]) tys_ok (laws_lwCopy.cons N) mixed Try.func8 (laws_lwCopy.ls N) rfl rfl ?_
  intro ds R k y h
  cases ds with
  | nil => exact none_some h
  | cons d0 ds =>
  cases ds with
  | cons _ _ => exact none_some h
  | nil =>
  have h0 : (castDm (.sl 2 (.int .i64)) .imm d0 fun x0 => bindO (laws_lwCopy N x0) fun r => k [⟨(.sl 2 (.int .i64)), (.own .imm), r⟩] []) = some y := h
  clear h
  obtain ⟨x0, rfl, h1⟩ := castDm_eq h0
  exact con_fin (laws_lwCopy.b N x0) h1
theorem laws_lwCopy.det (N : Nat) : ConDet (laws_lwCopy.con N) := by
  intro ds R k y h
  cases ds with
  | nil => exact none_some h
  | cons d0 ds =>
  cases ds with
  | cons _ _ => exact none_some h
  | nil =>
  have h0 : (castDm (.sl 2 (.int .i64)) .imm d0 fun x0 => bindO (laws_lwCopy N x0) fun r => k [⟨(.sl 2 (.int .i64)), (.own .imm), r⟩] []) = some y := h
  clear h
  obtain ⟨x0, rfl, h1⟩ := castDm_eq h0
  obtain ⟨r, e, h⟩ := bindO_some h1
  refine ⟨_, _, h, fun k' => ?_⟩
  show (castDm (.sl 2 (.int .i64)) .imm (⟨(.sl 2 (.int .i64)), .imm, x0⟩ : Dy) fun x0 => bindO (laws_lwCopy N x0) fun r => k' [⟨(.sl 2 (.int .i64)), (.own .imm), r⟩] []) = _
  simp only [castDm_self]
  rw [e]
  rfl
noncomputable def impl_isMany.con (N : Nat) : Con := { modes := [.v], ptrs := [false], fn := fun ds k => match ds with | [d0] => castDm (.int .i64) .imm d0 fun x0 => bindO (impl_isMany N x0) fun r => k [⟨.bool, .imm, r⟩] [] | _ => none }
noncomputable def impl_isMany.cfg (N : Nat) : Cfg := { ty := tys, keep := [], flt := [], elm := [(22, (.own .imm)), (23, (.own (.own .imm))), (24, (.own .imm)), (25, (.pr (.own (.own .imm)) (.pr .imm (.pr (.own .imm) .imm)))), (26, (.pr (.own (.own .imm)) (.pr .imm (.pr (.own .imm) .imm)))), (37, (.pr (.pr (.own (.own .imm)) (.pr .imm (.pr (.own .imm) .imm))) (.pr (.own .imm) .imm))), (38, (.pr (.pr (.own (.own .imm)) (.pr .imm (.pr (.own .imm) .imm))) (.pr (.own .imm) .imm))), (54, (.pr (.own .imm) .imm)), (55, (.pr (.own .imm) .imm)), (58, (.own .imm))], live := [], ord := [], con := [], loops := [], joins := [] }
theorem impl_isMany.cons (N : Nat) : ConsOk Try.prog (impl_isMany.cfg N).con := consOk_nil
theorem impl_isMany.ls (N : Nat) : LoopsOk Try.prog (impl_isMany.cfg N) (fnBody Try.f23) := loopsL (l := []) (by kernel_rfl) trivial
theorem impl_isMany.b (N : Nat) (x0 : den (.int .i64)) : body (impl_isMany.cfg N) N Try.f23 [.one] [.v] [(false, .imm)] [⟨(.int .i64), .imm, x0⟩] (fun r i => some (r, i)) = bindO (impl_isMany N x0) fun r => some ([⟨.bool, .imm, r⟩], []) := by
  show _ = bindF _ _
  conv => rhs; simp only [impl_isMany, bindF_ifB, bindF_bindO, bindF_pure, bindF_none, bindF_onSum]
  kernel_rfl
theorem impl_isMany.ok (N : Nat) : ConOk Try.prog 23 [.one] (impl_isMany.con N) := by
  refine conOk_mk (g := impl_isMany.cfg N) (N := N) (res := [(false, .imm)]) tys_ok (impl_isMany.cons N) mixed Try.func23 (impl_isMany.ls N) rfl rfl ?_
  intro ds R k y h
  cases ds with
  | nil => exact none_some h
  | cons d0 ds =>
  cases ds with
  | cons _ _ => exact none_some h
  | nil =>
  have h0 : (castDm (.int .i64) .imm d0 fun x0 => bindO (impl_isMany N x0) fun r => k [⟨.bool, .imm, r⟩] []) = some y := h
  clear h
  obtain ⟨x0, rfl, h1⟩ := castDm_eq h0
  exact con_fin (impl_isMany.b N x0) h1
theorem impl_isMany.det (N : Nat) : ConDet (impl_isMany.con N) := by
  intro ds R k y h
  cases ds with
  | nil => exact none_some h
  | cons d0 ds =>
  cases ds with
  | cons _ _ => exact none_some h
  | nil =>
  have h0 : (castDm (.int .i64) .imm d0 fun x0 => bindO (impl_isMany N x0) fun r => k [⟨.bool, .imm, r⟩] []) = some y := h
  clear h
  obtain ⟨x0, rfl, h1⟩ := castDm_eq h0
  obtain ⟨r, e, h⟩ := bindO_some h1
  refine ⟨_, _, h, fun k' => ?_⟩
  show (castDm (.int .i64) .imm (⟨(.int .i64), .imm, x0⟩ : Dy) fun x0 => bindO (impl_isMany N x0) fun r => k' [⟨.bool, .imm, r⟩] []) = _
  simp only [castDm_self]
  rw [e]
  rfl
noncomputable def slices_Clone_Sint64_int64.con (N : Nat) : Con := { modes := [.v], ptrs := [false], fn := fun ds k => match ds with | [d0] => castDm (.sl 2 (.int .i64)) .imm d0 fun x0 => bindO (slices_Clone_Sint64_int64 N x0) fun r => k [⟨(.sl 2 (.int .i64)), (.own .imm), r⟩] [] | _ => none }
noncomputable def slices_Clone_Sint64_int64.cfg (N : Nat) : Cfg := { ty := tys, keep := [], flt := [], elm := [(22, (.own .imm)), (23, (.own (.own .imm))), (24, (.own .imm)), (25, (.pr (.own (.own .imm)) (.pr .imm (.pr (.own .imm) .imm)))), (26, (.pr (.own (.own .imm)) (.pr .imm (.pr (.own .imm) .imm)))), (37, (.pr (.pr (.own (.own .imm)) (.pr .imm (.pr (.own .imm) .imm))) (.pr (.own .imm) .imm))), (38, (.pr (.pr (.own (.own .imm)) (.pr .imm (.pr (.own .imm) .imm))) (.pr (.own .imm) .imm))), (54, (.pr (.own .imm) .imm)), (55, (.pr (.own .imm) .imm)), (58, (.own .imm))], live := [], ord := [], con := [], loops := [], joins := [] }
theorem slices_Clone_Sint64_int64.cons (N : Nat) : ConsOk Try.prog (slices_Clone_Sint64_int64.cfg N).con := consOk_nil
theorem slices_Clone_Sint64_int64.ls (N : Nat) : LoopsOk Try.prog (slices_Clone_Sint64_int64.cfg N) (fnBody Try.f27) := loopsL (l := []) (by kernel_rfl) trivial
theorem slices_Clone_Sint64_int64.pu {R : Type} (N : Nat) (x0 : den (.sl 2 (.int .i64))) (f : _ → Option R) : Psh (slices_Clone_Sint64_int64 N x0) (slices_Clone_Sint64_int64.g N x0 f) f := by
  unfold slices_Clone_Sint64_int64 slices_Clone_Sint64_int64.g
  repeat' (first | exact psh_pure | exact psh_none | refine psh_ifB ?_ ?_ | refine psh_same ?_ ?_ | refine psh_bindO fun _ => ?_)
theorem slices_Clone_Sint64_int64.b (N : Nat) (x0 : den (.sl 2 (.int .i64))) : body (slices_Clone_Sint64_int64.cfg N) N Try.f27 [.one] [.v] [(false, (.own .imm))] [⟨(.sl 2 (.int .i64)), .imm, x0⟩] (fun r i => some (r, i)) = slices_Clone_Sint64_int64.g N x0 fun r => some ([⟨(.sl 2 (.int .i64)), (.own .imm), r⟩], []) := by kernel_rfl
theorem slices_Clone_Sint64_int64.ok (N : Nat) : ConOk Try.prog 27 [.one] (slices_Clone_Sint64_int64.con N) := by
  refine conOk_mk (g := slices_Clone_Sint64_int64.cfg N) (N := N) (res := [(false, (.own .imm))]) tys_ok (slices_Clone_Sint64_int64.cons N) mixed Try.func27 (slices_Clone_Sint64_int64.ls N) rfl rfl ?_
  intro ds R k y h
  cases ds with
  | nil => exact none_some h
  | cons d0 ds =>
  cases ds with
  | cons _ _ => exact none_some h
  | nil =>
  have h0 : (castDm (.sl 2 (.int .i64)) .imm d0 fun x0 => bindO (slices_Clone_Sint64_int64 N x0) fun r => k [⟨(.sl 2 (.int .i64)), (.own .imm), r⟩] []) = some y := h
  clear h
  obtain ⟨x0, rfl, h1⟩ := castDm_eq h0
  exact con_fin' (slices_Clone_Sint64_int64.b N x0) (slices_Clone_Sint64_int64.pu N x0 _) h1
theorem slices_Clone_Sint64_int64.det (N : Nat) : ConDet (slices_Clone_Sint64_int64.con N) := by
  intro ds R k y h
  cases ds with
  | nil => exact none_some h
  | cons d0 ds =>
  cases ds with
  | cons _ _ => exact none_some h
  | nil =>
  have h0 : (castDm (.sl 2 (.int .i64)) .imm d0 fun x0 => bindO (slices_Clone_Sint64_int64 N x0) fun r => k [⟨(.sl 2 (.int .i64)), (.own .imm), r⟩] []) = some y := h
  clear h
  obtain ⟨x0, rfl, h1⟩ := castDm_eq h0
  obtain ⟨r, e, h⟩ := bindO_some h1
  refine ⟨_, _, h, fun k' => ?_⟩
  show (castDm (.sl 2 (.int .i64)) .imm (⟨(.sl 2 (.int .i64)), .imm, x0⟩ : Dy) fun x0 => bindO (slices_Clone_Sint64_int64 N x0) fun r => k' [⟨(.sl 2 (.int .i64)), (.own .imm), r⟩] []) = _
  simp only [castDm_self]
  rw [e]
  rfl
def impl_ownLists.sk3 : Skel := ⟨[.dead, .dead, .dead, .ov 50 [], .dead, .dead, .dead, .pv (.sl 24 (.sl 2 (.int .i64))), .pv (.int .i64), .pv (.int .i64), .dead, .dead, .dead, .dead, .dead, .dead, .dead, .dead, .dead, .dead], [⟨50, (.sl 24 (.sl 2 (.int .i64))), (.own (.own .imm)), false, false⟩]⟩
def impl_ownLists.xs3 : List XS := [⟨.exit 0, [3], ⟨[.dead, .dead, .dead, .ov 50 [], .dead, .dead, .dead, .dead, .dead, .dead, .dead, .dead, .dead, .dead, .dead, .dead, .dead, .dead, .dead, .dead], [⟨50, (.sl 24 (.sl 2 (.int .i64))), (.own (.own .imm)), false, false⟩]⟩⟩]
noncomputable def impl_ownLists.con (N : Nat) : Con := { modes := [.v], ptrs := [false], fn := fun ds k => match ds with | [d0] => castDm (.sl 24 (.sl 2 (.int .i64))) .imm d0 fun x0 => bindO (impl_ownLists N x0) fun r => k [⟨(.sl 24 (.sl 2 (.int .i64))), (.own (.own .imm)), r⟩] [] | _ => none }
noncomputable def impl_ownLists.cfg (N : Nat) : Cfg := { ty := tys, keep := [15], flt := [], elm := [(22, (.own .imm)), (23, (.own (.own .imm))), (24, (.own .imm)), (25, (.pr (.own (.own .imm)) (.pr .imm (.pr (.own .imm) .imm)))), (26, (.pr (.own (.own .imm)) (.pr .imm (.pr (.own .imm) .imm)))), (37, (.pr (.pr (.own (.own .imm)) (.pr .imm (.pr (.own .imm) .imm))) (.pr (.own .imm) .imm))), (38, (.pr (.pr (.own (.own .imm)) (.pr .imm (.pr (.own .imm) .imm))) (.pr (.own .imm) .imm))), (54, (.pr (.own .imm) .imm)), (55, (.pr (.own .imm) .imm)), (58, (.own .imm))], live := [(3, [3, 7, 8, 9])], ord := [], con := [((27, [.one]), slices_Clone_Sint64_int64.con N)], loops := [(3, loopCon N impl_ownLists.sk3 impl_ownLists.xs3 (fun {R} => impl_ownLists.l3 (R := R) N))], joins := [] }
theorem impl_ownLists.cons (N : Nat) : ConsOk Try.prog (impl_ownLists.cfg N).con := (consOk_cons (hb27) (slices_Clone_Sint64_int64.ok N) (slices_Clone_Sint64_int64.det N) consOk_nil)
theorem impl_ownLists.h3 {R : Type} (N : Nat) (d : impl_ownLists.sk3.D) (kn : impl_ownLists.sk3.D → Option R) (kx : XD impl_ownLists.xs3 → Option R) : roundK (impl_ownLists.cfg N) N (nthLoop (fnBody Try.f36) 0) impl_ownLists.sk3 impl_ownLists.xs3 d kn kx = impl_ownLists.l3 N d kn kx := by kernel_rfl
theorem impl_ownLists.i3 (N : Nat) : LoopsOk Try.prog (impl_ownLists.cfg N) (nthLoop (fnBody Try.f36) 0) := loopsL (l := []) (by kernel_rfl) trivial
theorem impl_ownLists.o3 (N : Nat) : LoopOk Try.prog (nthLoop (fnBody Try.f36) 0) (loopCon N impl_ownLists.sk3 impl_ownLists.xs3 (fun {R} => impl_ownLists.l3 (R := R) N)) := loop_ok (g := impl_ownLists.cfg N) tys_ok (impl_ownLists.cons N) mixed (impl_ownLists.i3 N) (fun d kn kx => impl_ownLists.h3 N d kn kx)
theorem impl_ownLists.ls (N : Nat) : LoopsOk Try.prog (impl_ownLists.cfg N) (fnBody Try.f36) := loopsL (l := [nthLoop (fnBody Try.f36) 0]) (by kernel_rfl) ⟨loopOne (L0 := loopCon N impl_ownLists.sk3 impl_ownLists.xs3 (fun {R} => impl_ownLists.l3 (R := R) N)) (id := 3) (by kernel_rfl) (by kernel_rfl) (impl_ownLists.o3 N), trivial⟩
theorem impl_ownLists.q3 {R R' : Type} {N n : Nat} {d} {k} {g : R → Option R'} : bindF (loopP (impl_ownLists.l3 N) n d k) g = loopP (impl_ownLists.l3 N) n d fun e => bindF (k e) g := bindF_loopP (fun d kn kx => by simp only [impl_ownLists.l3, bindF_ifB, bindF_bindO, bindF_pure, bindF_none, bindF_onSum]) n d k
theorem impl_ownLists.b (N : Nat) (x0 : den (.sl 24 (.sl 2 (.int .i64)))) : body (impl_ownLists.cfg N) N Try.f36 [.one] [.v] [(false, (.own (.own .imm)))] [⟨(.sl 24 (.sl 2 (.int .i64))), .imm, x0⟩] (fun r i => some (r, i)) = bindO (impl_ownLists N x0) fun r => some ([⟨(.sl 24 (.sl 2 (.int .i64))), (.own (.own .imm)), r⟩], []) := by
  show _ = bindF _ _
  conv => rhs; simp only [impl_ownLists, bindF_ifB, bindF_bindO, bindF_pure, bindF_none, bindF_onSum, impl_ownLists.q3]
  kernel_rfl
theorem impl_ownLists.ok (N : Nat) : ConOk Try.prog 36 [.one] (impl_ownLists.con N) := by
  refine conOk_mk (g := impl_ownLists.cfg N) (N := N) (res := [(false, (.own (.own .imm)))]) tys_ok (impl_ownLists.cons N) mixed Try.func36 (impl_ownLists.ls N) rfl rfl ?_
  intro ds R k y h
  cases ds with
  | nil => exact none_some h
  | cons d0 ds =>
  cases ds with
  | cons _ _ => exact none_some h
  | nil =>
  have h0 : (castDm (.sl 24 (.sl 2 (.int .i64))) .imm d0 fun x0 => bindO (impl_ownLists N x0) fun r => k [⟨(.sl 24 (.sl 2 (.int .i64))), (.own (.own .imm)), r⟩] []) = some y := h
  clear h
  obtain ⟨x0, rfl, h1⟩ := castDm_eq h0
  exact con_fin (impl_ownLists.b N x0) h1
theorem impl_ownLists.det (N : Nat) : ConDet (impl_ownLists.con N) := by
  intro ds R k y h
  cases ds with
  | nil => exact none_some h
  | cons d0 ds =>
  cases ds with
  | cons _ _ => exact none_some h
  | nil =>
  have h0 : (castDm (.sl 24 (.sl 2 (.int .i64))) .imm d0 fun x0 => bindO (impl_ownLists N x0) fun r => k [⟨(.sl 24 (.sl 2 (.int .i64))), (.own (.own .imm)), r⟩] []) = some y := h
  clear h
  obtain ⟨x0, rfl, h1⟩ := castDm_eq h0
  obtain ⟨r, e, h⟩ := bindO_some h1
  refine ⟨_, _, h, fun k' => ?_⟩
  show (castDm (.sl 24 (.sl 2 (.int .i64))) .imm (⟨(.sl 24 (.sl 2 (.int .i64))), .imm, x0⟩ : Dy) fun x0 => bindO (impl_ownLists N x0) fun r => k' [⟨(.sl 24 (.sl 2 (.int .i64))), (.own (.own .imm)), r⟩] []) = _
  simp only [castDm_self]
  rw [e]
  rfl
noncomputable def impl_ownHist.con (N : Nat) : Con := { modes := [.v], ptrs := [false], fn := fun ds k => match ds with | [d0] => castDm (.pair (.sl 24 (.sl 2 (.int .i64))) (.pair (.int .i64) (.pair (.sl 2 (.int .i64)) .unit))) .imm d0 fun x0 => bindO (impl_ownHist N x0) fun r => k [⟨(.pair (.sl 24 (.sl 2 (.int .i64))) (.pair (.int .i64) (.pair (.sl 2 (.int .i64)) .unit))), (.pr (.own (.own .imm)) (.pr .imm (.pr (.own .imm) .imm))), r⟩] [] | _ => none }
noncomputable def impl_ownHist.cfg (N : Nat) : Cfg := { ty := tys, keep := [5, 10], flt := [], elm := [(22, (.own .imm)), (23, (.own (.own .imm))), (24, (.own .imm)), (25, (.pr (.own (.own .imm)) (.pr .imm (.pr (.own .imm) .imm)))), (26, (.pr (.own (.own .imm)) (.pr .imm (.pr (.own .imm) .imm)))), (37, (.pr (.pr (.own (.own .imm)) (.pr .imm (.pr (.own .imm) .imm))) (.pr (.own .imm) .imm))), (38, (.pr (.pr (.own (.own .imm)) (.pr .imm (.pr (.own .imm) .imm))) (.pr (.own .imm) .imm))), (54, (.pr (.own .imm) .imm)), (55, (.pr (.own .imm) .imm)), (58, (.own .imm))], live := [], ord := [(1, [0, 1, 3, 4, 5, 6, 2, 7, 8, 9])], con := [((36, [.one]), impl_ownLists.con N), ((27, [.one]), slices_Clone_Sint64_int64.con N)], loops := [], joins := [] }
theorem impl_ownHist.cons (N : Nat) : ConsOk Try.prog (impl_ownHist.cfg N).con := (consOk_cons (hb36) (impl_ownLists.ok N) (impl_ownLists.det N) (consOk_cons (hb27) (slices_Clone_Sint64_int64.ok N) (slices_Clone_Sint64_int64.det N) consOk_nil))
theorem impl_ownHist.ls (N : Nat) : LoopsOk Try.prog (impl_ownHist.cfg N) (fnBody Try.f24) := loopsL (l := []) (by kernel_rfl) trivial
theorem impl_ownHist.b (N : Nat) (x0 : den (.pair (.sl 24 (.sl 2 (.int .i64))) (.pair (.int .i64) (.pair (.sl 2 (.int .i64)) .unit)))) : body (impl_ownHist.cfg N) N Try.f24 [.one] [.v] [(false, (.pr (.own (.own .imm)) (.pr .imm (.pr (.own .imm) .imm))))] [⟨(.pair (.sl 24 (.sl 2 (.int .i64))) (.pair (.int .i64) (.pair (.sl 2 (.int .i64)) .unit))), .imm, x0⟩] (fun r i => some (r, i)) = bindO (impl_ownHist N x0) fun r => some ([⟨(.pair (.sl 24 (.sl 2 (.int .i64))) (.pair (.int .i64) (.pair (.sl 2 (.int .i64)) .unit))), (.pr (.own (.own .imm)) (.pr .imm (.pr (.own .imm) .imm))), r⟩], []) := by
  show _ = bindF _ _
  conv => rhs; simp only [impl_ownHist, bindF_ifB, bindF_bindO, bindF_pure, bindF_none, bindF_onSum]
  kernel_rfl
theorem impl_ownHist.ok (N : Nat) : ConOk Try.prog 24 [.one] (impl_ownHist.con N) := by
  refine conOk_mk (g := impl_ownHist.cfg N) (N := N) (res := [(false, (.pr (.own (.own .imm)) (.pr .imm (.pr (.own .imm) .imm))))]) tys_ok (impl_ownHist.cons N) mixed Try.func24 (impl_ownHist.ls N) rfl rfl ?_
  intro ds R k y h
  cases ds with
  | nil => exact none_some h
  | cons d0 ds =>
  cases ds with
  | cons _ _ => exact none_some h
  | nil =>
  have h0 : (castDm (.pair (.sl 24 (.sl 2 (.int .i64))) (.pair (.int .i64) (.pair (.sl 2 (.int .i64)) .unit))) .imm d0 fun x0 => bindO (impl_ownHist N x0) fun r => k [⟨(.pair (.sl 24 (.sl 2 (.int .i64))) (.pair (.int .i64) (.pair (.sl 2 (.int .i64)) .unit))), (.pr (.own (.own .imm)) (.pr .imm (.pr (.own .imm) .imm))), r⟩] []) = some y := h
  clear h
  obtain ⟨x0, rfl, h1⟩ := castDm_eq h0
  exact con_fin (impl_ownHist.b N x0) h1
theorem impl_ownHist.det (N : Nat) : ConDet (impl_ownHist.con N) := by
  intro ds R k y h
  cases ds with
  | nil => exact none_some h
  | cons d0 ds =>
  cases ds with
  | cons _ _ => exact none_some h
  | nil =>
  have h0 : (castDm (.pair (.sl 24 (.sl 2 (.int .i64))) (.pair (.int .i64) (.pair (.sl 2 (.int .i64)) .unit))) .imm d0 fun x0 => bindO (impl_ownHist N x0) fun r => k [⟨(.pair (.sl 24 (.sl 2 (.int .i64))) (.pair (.int .i64) (.pair (.sl 2 (.int .i64)) .unit))), (.pr (.own (.own .imm)) (.pr .imm (.pr (.own .imm) .imm))), r⟩] []) = some y := h
  clear h
  obtain ⟨x0, rfl, h1⟩ := castDm_eq h0
  obtain ⟨r, e, h⟩ := bindO_some h1
  refine ⟨_, _, h, fun k' => ?_⟩
  show (castDm (.pair (.sl 24 (.sl 2 (.int .i64))) (.pair (.int .i64) (.pair (.sl 2 (.int .i64)) .unit))) .imm (⟨(.pair (.sl 24 (.sl 2 (.int .i64))) (.pair (.int .i64) (.pair (.sl 2 (.int .i64)) .unit))), .imm, x0⟩ : Dy) fun x0 => bindO (impl_ownHist N x0) fun r => k' [⟨(.pair (.sl 24 (.sl 2 (.int .i64))) (.pair (.int .i64) (.pair (.sl 2 (.int .i64)) .unit))), (.pr (.own (.own .imm)) (.pr .imm (.pr (.own .imm) .imm))), r⟩] []) = _
  simp only [castDm_self]
  rw [e]
  rfl
noncomputable def impl_within.con (N : Nat) : Con := { modes := [.v, .v, .v], ptrs := [false], fn := fun ds k => match ds with | [d0, d1, d2] => castDm (.int .i64) .imm d0 fun x0 => castDm (.int .i64) .imm d1 fun x1 => castDm (.int .i64) .imm d2 fun x2 => bindO (impl_within N x0 x1 x2) fun r => k [⟨.bool, .imm, r⟩] [] | _ => none }
noncomputable def impl_within.cfg (N : Nat) : Cfg := { ty := tys, keep := [], flt := [], elm := [(22, (.own .imm)), (23, (.own (.own .imm))), (24, (.own .imm)), (25, (.pr (.own (.own .imm)) (.pr .imm (.pr (.own .imm) .imm)))), (26, (.pr (.own (.own .imm)) (.pr .imm (.pr (.own .imm) .imm)))), (37, (.pr (.pr (.own (.own .imm)) (.pr .imm (.pr (.own .imm) .imm))) (.pr (.own .imm) .imm))), (38, (.pr (.pr (.own (.own .imm)) (.pr .imm (.pr (.own .imm) .imm))) (.pr (.own .imm) .imm))), (54, (.pr (.own .imm) .imm)), (55, (.pr (.own .imm) .imm)), (58, (.own .imm))], live := [], ord := [], con := [], loops := [], joins := [] }
theorem impl_within.cons (N : Nat) : ConsOk Try.prog (impl_within.cfg N).con := consOk_nil
theorem impl_within.ls (N : Nat) : LoopsOk Try.prog (impl_within.cfg N) (fnBody Try.f30) := loopsL (l := []) (by kernel_rfl) trivial
theorem impl_within.b (N : Nat) (x0 : den (.int .i64)) (x1 : den (.int .i64)) (x2 : den (.int .i64)) : body (impl_within.cfg N) N Try.f30 [.one, .one, .one] [.v, .v, .v] [(false, .imm)] [⟨(.int .i64), .imm, x0⟩, ⟨(.int .i64), .imm, x1⟩, ⟨(.int .i64), .imm, x2⟩] (fun r i => some (r, i)) = bindO (impl_within N x0 x1 x2) fun r => some ([⟨.bool, .imm, r⟩], []) := by
  show _ = bindF _ _
  conv => rhs; simp only [impl_within, bindF_ifB, bindF_bindO, bindF_pure, bindF_none, bindF_onSum]
  kernel_rfl
theorem impl_within.ok (N : Nat) : ConOk Try.prog 30 [.one, .one, .one] (impl_within.con N) := by
  refine conOk_mk (g := impl_within.cfg N) (N := N) (res := [(false, .imm)]) tys_ok (impl_within.cons N) mixed Try.func30 (impl_within.ls N) rfl rfl ?_
  intro ds R k y h
  cases ds with
  | nil => exact none_some h
  | cons d0 ds =>
  cases ds with
  | nil => exact none_some h
  | cons d1 ds =>
  cases ds with
  | nil => exact none_some h
  | cons d2 ds =>
  cases ds with
  | cons _ _ => exact none_some h
  | nil =>
  have h0 : (castDm (.int .i64) .imm d0 fun x0 => castDm (.int .i64) .imm d1 fun x1 => castDm (.int .i64) .imm d2 fun x2 => bindO (impl_within N x0 x1 x2) fun r => k [⟨.bool, .imm, r⟩] []) = some y := h
  clear h
  obtain ⟨x0, rfl, h1⟩ := castDm_eq h0
  obtain ⟨x1, rfl, h2⟩ := castDm_eq h1
  obtain ⟨x2, rfl, h3⟩ := castDm_eq h2
  exact con_fin (impl_within.b N x0 x1 x2) h3
theorem impl_within.det (N : Nat) : ConDet (impl_within.con N) := by
  intro ds R k y h
  cases ds with
  | nil => exact none_some h
  | cons d0 ds =>
  cases ds with
  | nil => exact none_some h
  | cons d1 ds =>
  cases ds with
  | nil => exact none_some h
  | cons d2 ds =>
  cases ds with
  | cons _ _ => exact none_some h
  | nil =>
  have h0 : (castDm (.int .i64) .imm d0 fun x0 => castDm (.int .i64) .imm d1 fun x1 => castDm (.int .i64) .imm d2 fun x2 => bindO (impl_within N x0 x1 x2) fun r => k [⟨.bool, .imm, r⟩] []) = some y := h
  clear h
  obtain ⟨x0, rfl, h1⟩ := castDm_eq h0
  obtain ⟨x1, rfl, h2⟩ := castDm_eq h1
  obtain ⟨x2, rfl, h3⟩ := castDm_eq h2
  obtain ⟨r, e, h⟩ := bindO_some h3
  refine ⟨_, _, h, fun k' => ?_⟩
  show (castDm (.int .i64) .imm (⟨(.int .i64), .imm, x0⟩ : Dy) fun x0 => castDm (.int .i64) .imm (⟨(.int .i64), .imm, x1⟩ : Dy) fun x1 => castDm (.int .i64) .imm (⟨(.int .i64), .imm, x2⟩ : Dy) fun x2 => bindO (impl_within N x0 x1 x2) fun r => k' [⟨.bool, .imm, r⟩] []) = _
  simp only [castDm_self]
  rw [e]
  rfl
noncomputable def impl_isPoint.con (N : Nat) : Con := { modes := [.v], ptrs := [false], fn := fun ds k => match ds with | [d0] => castDm (.int .i64) .imm d0 fun x0 => bindO (impl_isPoint N x0) fun r => k [⟨.bool, .imm, r⟩] [] | _ => none }
noncomputable def impl_isPoint.cfg (N : Nat) : Cfg := { ty := tys, keep := [4, 7], flt := [], elm := [(22, (.own .imm)), (23, (.own (.own .imm))), (24, (.own .imm)), (25, (.pr (.own (.own .imm)) (.pr .imm (.pr (.own .imm) .imm)))), (26, (.pr (.own (.own .imm)) (.pr .imm (.pr (.own .imm) .imm)))), (37, (.pr (.pr (.own (.own .imm)) (.pr .imm (.pr (.own .imm) .imm))) (.pr (.own .imm) .imm))), (38, (.pr (.pr (.own (.own .imm)) (.pr .imm (.pr (.own .imm) .imm))) (.pr (.own .imm) .imm))), (54, (.pr (.own .imm) .imm)), (55, (.pr (.own .imm) .imm)), (58, (.own .imm))], live := [], ord := [], con := [((30, [.one, .one, .one]), impl_within.con N)], loops := [], joins := [] }
theorem impl_isPoint.cons (N : Nat) : ConsOk Try.prog (impl_isPoint.cfg N).con := (consOk_cons (hb30) (impl_within.ok N) (impl_within.det N) consOk_nil)
theorem impl_isPoint.ls (N : Nat) : LoopsOk Try.prog (impl_isPoint.cfg N) (fnBody Try.f39) := loopsL (l := []) (by kernel_rfl) trivial
theorem impl_isPoint.b (N : Nat) (x0 : den (.int .i64)) : body (impl_isPoint.cfg N) N Try.f39 [.one] [.v] [(false, .imm)] [⟨(.int .i64), .imm, x0⟩] (fun r i => some (r, i)) = bindO (impl_isPoint N x0) fun r => some ([⟨.bool, .imm, r⟩], []) := by
  show _ = bindF _ _
  conv => rhs; simp only [impl_isPoint, bindF_ifB, bindF_bindO, bindF_pure, bindF_none, bindF_onSum]
  kernel_rfl
theorem impl_isPoint.ok (N : Nat) : ConOk Try.prog 39 [.one] (impl_isPoint.con N) := by
  refine conOk_mk (g := impl_isPoint.cfg N) (N := N) (res := [(false, .imm)]) tys_ok (impl_isPoint.cons N) mixed Try.func39 (impl_isPoint.ls N) rfl rfl ?_
  intro ds R k y h
  cases ds with
  | nil => exact none_some h
  | cons d0 ds =>
  cases ds with
  | cons _ _ => exact none_some h
  | nil =>
  have h0 : (castDm (.int .i64) .imm d0 fun x0 => bindO (impl_isPoint N x0) fun r => k [⟨.bool, .imm, r⟩] []) = some y := h
  clear h
  obtain ⟨x0, rfl, h1⟩ := castDm_eq h0
  exact con_fin (impl_isPoint.b N x0) h1
theorem impl_isPoint.det (N : Nat) : ConDet (impl_isPoint.con N) := by
  intro ds R k y h
  cases ds with
  | nil => exact none_some h
  | cons d0 ds =>
  cases ds with
  | cons _ _ => exact none_some h
  | nil =>
  have h0 : (castDm (.int .i64) .imm d0 fun x0 => bindO (impl_isPoint N x0) fun r => k [⟨.bool, .imm, r⟩] []) = some y := h
  clear h
  obtain ⟨x0, rfl, h1⟩ := castDm_eq h0
  obtain ⟨r, e, h⟩ := bindO_some h1
  refine ⟨_, _, h, fun k' => ?_⟩
  show (castDm (.int .i64) .imm (⟨(.int .i64), .imm, x0⟩ : Dy) fun x0 => bindO (impl_isPoint N x0) fun r => k' [⟨.bool, .imm, r⟩] []) = _
  simp only [castDm_self]
  rw [e]
  rfl
end Go.AE.F
