/- The printed functions are what the program comes to: contracts. -/
import Derived.Test.YtaaclbdpadgpiaaLHistoryL2
namespace Go.AE.F
open Go.AE Go.Proofs
set_option maxRecDepth 100000
noncomputable def impl_HistAdd.con (N : Nat) : Con := { modes := [.v, .v], ptrs := [false], fn := fun ds k => match ds with | [d0, d1] => castDm (.pair (.sl 24 (.sl 2 (.int .i64))) (.pair (.int .i64) (.pair (.sl 2 (.int .i64)) .unit))) .imm d0 fun x0 => castDm (.sl 2 (.int .i64)) .imm d1 fun x1 => bindO (impl_HistAdd N x0 x1) fun r => k [⟨(.pair (.sl 24 (.sl 2 (.int .i64))) (.pair (.int .i64) (.pair (.sl 2 (.int .i64)) .unit))), (.pr (.own (.own .imm)) (.pr .imm (.pr (.own .imm) .imm))), r⟩] [] | _ => none }
noncomputable def impl_HistAdd.cfg (N : Nat) : Cfg := { ty := tys, keep := [9, 12, 18, 22, 39, 46, 63], flt := [], elm := [(22, (.own .imm)), (23, (.own (.own .imm))), (24, (.own .imm)), (25, (.pr (.own (.own .imm)) (.pr .imm (.pr (.own .imm) .imm)))), (26, (.pr (.own (.own .imm)) (.pr .imm (.pr (.own .imm) .imm)))), (37, (.pr (.pr (.own (.own .imm)) (.pr .imm (.pr (.own .imm) .imm))) (.pr (.own .imm) .imm))), (38, (.pr (.pr (.own (.own .imm)) (.pr .imm (.pr (.own .imm) .imm))) (.pr (.own .imm) .imm))), (54, (.pr (.own .imm) .imm)), (55, (.pr (.own .imm) .imm)), (58, (.own .imm))], live := [], ord := [(3, [6, 0, 2, 3, 1, 4, 5, 7, 8]), (7, [0, 1, 2, 3, 4, 5, 6, 7]), (9, [0, 1, 2, 3, 4, 5, 6])], con := [((23, [.one]), impl_isMany.con N), ((24, [.one]), impl_ownHist.con N), ((9, [.one]), impl_HistRight.con N), ((25, [.one]), impl_PointsRight.con N), ((26, [.one, .one]), slices_Equal_Sint64_int64.con N), ((27, [.one]), slices_Clone_Sint64_int64.con N), ((28, [.one]), impl_size_SSint64.con N)], loops := [], joins := [] }
theorem impl_HistAdd.cons (N : Nat) : ConsOk Try.prog (impl_HistAdd.cfg N).con := (consOk_cons (hb23) (impl_isMany.ok N) (impl_isMany.det N) (consOk_cons (hb24) (impl_ownHist.ok N) (impl_ownHist.det N) (consOk_cons (hb9) (impl_HistRight.ok N) (impl_HistRight.det N) (consOk_cons (hb25) (impl_PointsRight.ok N) (impl_PointsRight.det N) (consOk_cons (hb26) (slices_Equal_Sint64_int64.ok N) (slices_Equal_Sint64_int64.det N) (consOk_cons (hb27) (slices_Clone_Sint64_int64.ok N) (slices_Clone_Sint64_int64.det N) (consOk_cons (hb28) (impl_size_SSint64.ok N) (impl_size_SSint64.det N) consOk_nil)))))))
theorem impl_HistAdd.ls (N : Nat) : LoopsOk Try.prog (impl_HistAdd.cfg N) (fnBody Try.f7) := loopsL (l := []) (by kernel_rfl) trivial
theorem impl_HistAdd.b (N : Nat) (x0 : den (.pair (.sl 24 (.sl 2 (.int .i64))) (.pair (.int .i64) (.pair (.sl 2 (.int .i64)) .unit)))) (x1 : den (.sl 2 (.int .i64))) : body (impl_HistAdd.cfg N) N Try.f7 [.one, .one] [.v, .v] [(false, (.pr (.own (.own .imm)) (.pr .imm (.pr (.own .imm) .imm))))] [⟨(.pair (.sl 24 (.sl 2 (.int .i64))) (.pair (.int .i64) (.pair (.sl 2 (.int .i64)) .unit))), .imm, x0⟩, ⟨(.sl 2 (.int .i64)), .imm, x1⟩] (fun r i => some (r, i)) = bindO (impl_HistAdd N x0 x1) fun r => some ([⟨(.pair (.sl 24 (.sl 2 (.int .i64))) (.pair (.int .i64) (.pair (.sl 2 (.int .i64)) .unit))), (.pr (.own (.own .imm)) (.pr .imm (.pr (.own .imm) .imm))), r⟩], []) := by
  show _ = bindF _ _
  conv => rhs; simp only [impl_HistAdd, bindF_ifB, bindF_bindO, bindF_pure, bindF_none, bindF_onSum]
  kernel_rfl
theorem impl_HistAdd.ok (N : Nat) : ConOk Try.prog 7 [.one, .one] (impl_HistAdd.con N) := by
  refine conOk_mk (g := impl_HistAdd.cfg N) (N := N) (res := [(false, (.pr (.own (.own .imm)) (.pr .imm (.pr (.own .imm) .imm))))]) tys_ok (impl_HistAdd.cons N) mixed Try.func7 (impl_HistAdd.ls N) rfl rfl ?_
  intro ds R k y h
  cases ds with
  | nil => exact none_some h
  | cons d0 ds =>
  cases ds with
  | nil => exact none_some h
  | cons d1 ds =>
  cases ds with
  | cons _ _ => exact none_some h
  | nil =>
  have h0 : (castDm (.pair (.sl 24 (.sl 2 (.int .i64))) (.pair (.int .i64) (.pair (.sl 2 (.int .i64)) .unit))) .imm d0 fun x0 => castDm (.sl 2 (.int .i64)) .imm d1 fun x1 => bindO (impl_HistAdd N x0 x1) fun r => k [⟨(.pair (.sl 24 (.sl 2 (.int .i64))) (.pair (.int .i64) (.pair (.sl 2 (.int .i64)) .unit))), (.pr (.own (.own .imm)) (.pr .imm (.pr (.own .imm) .imm))), r⟩] []) = some y := h
  clear h
  obtain ⟨x0, rfl, h1⟩ := castDm_eq h0
  obtain ⟨x1, rfl, h2⟩ := castDm_eq h1
  exact con_fin (impl_HistAdd.b N x0 x1) h2
theorem impl_HistAdd.det (N : Nat) : ConDet (impl_HistAdd.con N) := by
  intro ds R k y h
  cases ds with
  | nil => exact none_some h
  | cons d0 ds =>
  cases ds with
  | nil => exact none_some h
  | cons d1 ds =>
  cases ds with
  | cons _ _ => exact none_some h
  | nil =>
  have h0 : (castDm (.pair (.sl 24 (.sl 2 (.int .i64))) (.pair (.int .i64) (.pair (.sl 2 (.int .i64)) .unit))) .imm d0 fun x0 => castDm (.sl 2 (.int .i64)) .imm d1 fun x1 => bindO (impl_HistAdd N x0 x1) fun r => k [⟨(.pair (.sl 24 (.sl 2 (.int .i64))) (.pair (.int .i64) (.pair (.sl 2 (.int .i64)) .unit))), (.pr (.own (.own .imm)) (.pr .imm (.pr (.own .imm) .imm))), r⟩] []) = some y := h
  clear h
  obtain ⟨x0, rfl, h1⟩ := castDm_eq h0
  obtain ⟨x1, rfl, h2⟩ := castDm_eq h1
  obtain ⟨r, e, h⟩ := bindO_some h2
  refine ⟨_, _, h, fun k' => ?_⟩
  show (castDm (.pair (.sl 24 (.sl 2 (.int .i64))) (.pair (.int .i64) (.pair (.sl 2 (.int .i64)) .unit))) .imm (⟨(.pair (.sl 24 (.sl 2 (.int .i64))) (.pair (.int .i64) (.pair (.sl 2 (.int .i64)) .unit))), .imm, x0⟩ : Dy) fun x0 => castDm (.sl 2 (.int .i64)) .imm (⟨(.sl 2 (.int .i64)), .imm, x1⟩ : Dy) fun x1 => bindO (impl_HistAdd N x0 x1) fun r => k' [⟨(.pair (.sl 24 (.sl 2 (.int .i64))) (.pair (.int .i64) (.pair (.sl 2 (.int .i64)) .unit))), (.pr (.own (.own .imm)) (.pr .imm (.pr (.own .imm) .imm))), r⟩] []) = _
  simp only [castDm_self]
  rw [e]
  rfl
noncomputable def impl_HistLast.con (N : Nat) : Con := { modes := [.v], ptrs := [false], fn := fun ds k => match ds with | [d0] => castDm (.pair (.sl 24 (.sl 2 (.int .i64))) (.pair (.int .i64) (.pair (.sl 2 (.int .i64)) .unit))) .imm d0 fun x0 => bindO (impl_HistLast N x0) fun r => k [⟨(.sl 2 (.int .i64)), (.own .imm), r⟩] [] | _ => none }
noncomputable def impl_HistLast.cfg (N : Nat) : Cfg := { ty := tys, keep := [4, 20], flt := [], elm := [(22, (.own .imm)), (23, (.own (.own .imm))), (24, (.own .imm)), (25, (.pr (.own (.own .imm)) (.pr .imm (.pr (.own .imm) .imm)))), (26, (.pr (.own (.own .imm)) (.pr .imm (.pr (.own .imm) .imm)))), (37, (.pr (.pr (.own (.own .imm)) (.pr .imm (.pr (.own .imm) .imm))) (.pr (.own .imm) .imm))), (38, (.pr (.pr (.own (.own .imm)) (.pr .imm (.pr (.own .imm) .imm))) (.pr (.own .imm) .imm))), (54, (.pr (.own .imm) .imm)), (55, (.pr (.own .imm) .imm)), (58, (.own .imm))], live := [], ord := [], con := [((9, [.one]), impl_HistRight.con N), ((27, [.one]), slices_Clone_Sint64_int64.con N)], loops := [], joins := [] }
theorem impl_HistLast.cons (N : Nat) : ConsOk Try.prog (impl_HistLast.cfg N).con := (consOk_cons (hb9) (impl_HistRight.ok N) (impl_HistRight.det N) (consOk_cons (hb27) (slices_Clone_Sint64_int64.ok N) (slices_Clone_Sint64_int64.det N) consOk_nil))
theorem impl_HistLast.ls (N : Nat) : LoopsOk Try.prog (impl_HistLast.cfg N) (fnBody Try.f11) := loopsL (l := []) (by kernel_rfl) trivial
theorem impl_HistLast.b (N : Nat) (x0 : den (.pair (.sl 24 (.sl 2 (.int .i64))) (.pair (.int .i64) (.pair (.sl 2 (.int .i64)) .unit)))) : body (impl_HistLast.cfg N) N Try.f11 [.one] [.v] [(false, (.own .imm))] [⟨(.pair (.sl 24 (.sl 2 (.int .i64))) (.pair (.int .i64) (.pair (.sl 2 (.int .i64)) .unit))), .imm, x0⟩] (fun r i => some (r, i)) = bindO (impl_HistLast N x0) fun r => some ([⟨(.sl 2 (.int .i64)), (.own .imm), r⟩], []) := by
  show _ = bindF _ _
  conv => rhs; simp only [impl_HistLast, bindF_ifB, bindF_bindO, bindF_pure, bindF_none, bindF_onSum]
  kernel_rfl
theorem impl_HistLast.ok (N : Nat) : ConOk Try.prog 11 [.one] (impl_HistLast.con N) := by
  refine conOk_mk (g := impl_HistLast.cfg N) (N := N) (res := [(false, (.own .imm))]) tys_ok (impl_HistLast.cons N) mixed Try.func11 (impl_HistLast.ls N) rfl rfl ?_
  intro ds R k y h
  cases ds with
  | nil => exact none_some h
  | cons d0 ds =>
  cases ds with
  | cons _ _ => exact none_some h
  | nil =>
  have h0 : (castDm (.pair (.sl 24 (.sl 2 (.int .i64))) (.pair (.int .i64) (.pair (.sl 2 (.int .i64)) .unit))) .imm d0 fun x0 => bindO (impl_HistLast N x0) fun r => k [⟨(.sl 2 (.int .i64)), (.own .imm), r⟩] []) = some y := h
  clear h
  obtain ⟨x0, rfl, h1⟩ := castDm_eq h0
  exact con_fin (impl_HistLast.b N x0) h1
theorem impl_HistLast.det (N : Nat) : ConDet (impl_HistLast.con N) := by
  intro ds R k y h
  cases ds with
  | nil => exact none_some h
  | cons d0 ds =>
  cases ds with
  | cons _ _ => exact none_some h
  | nil =>
  have h0 : (castDm (.pair (.sl 24 (.sl 2 (.int .i64))) (.pair (.int .i64) (.pair (.sl 2 (.int .i64)) .unit))) .imm d0 fun x0 => bindO (impl_HistLast N x0) fun r => k [⟨(.sl 2 (.int .i64)), (.own .imm), r⟩] []) = some y := h
  clear h
  obtain ⟨x0, rfl, h1⟩ := castDm_eq h0
  obtain ⟨r, e, h⟩ := bindO_some h1
  refine ⟨_, _, h, fun k' => ?_⟩
  show (castDm (.pair (.sl 24 (.sl 2 (.int .i64))) (.pair (.int .i64) (.pair (.sl 2 (.int .i64)) .unit))) .imm (⟨(.pair (.sl 24 (.sl 2 (.int .i64))) (.pair (.int .i64) (.pair (.sl 2 (.int .i64)) .unit))), .imm, x0⟩ : Dy) fun x0 => bindO (impl_HistLast N x0) fun r => k' [⟨(.sl 2 (.int .i64)), (.own .imm), r⟩] []) = _
  simp only [castDm_self]
  rw [e]
  rfl
def laws_lwSame.sk4 : Skel := ⟨[.pv (.sl 2 (.int .i64)), .pv (.sl 2 (.int .i64)), .dead, .dead, .dead, .pv (.int .i64), .dead, .dead, .dead, .dead, .dead, .dead, .dead, .dead, .dead, .dead, .dead, .dead, .dead, .dead, .dead, .dead, .dead, .dead, .dead, .dead], []⟩
def laws_lwSame.xs4 : List XS := [⟨.exit 0, [], ⟨[.dead, .dead, .dead, .dead, .dead, .dead, .dead, .dead, .dead, .dead, .dead, .dead, .dead, .dead, .dead, .dead, .dead, .dead, .dead, .dead, .dead, .dead, .dead, .dead, .dead, .dead], []⟩⟩, ⟨.ret, [4], ⟨[.dead, .dead, .dead, .dead, .pv .bool, .dead, .dead, .dead, .dead, .dead, .dead, .dead, .dead, .dead, .dead, .dead, .dead, .dead, .dead, .dead, .dead, .dead, .dead, .dead, .dead, .dead], []⟩⟩]
noncomputable def laws_lwSame.con (N : Nat) : Con := { modes := [.v, .v], ptrs := [false], fn := fun ds k => match ds with | [d0, d1] => castDm (.sl 2 (.int .i64)) .imm d0 fun x0 => castDm (.sl 2 (.int .i64)) .imm d1 fun x1 => bindO (laws_lwSame N x0 x1) fun r => k [⟨.bool, .imm, r⟩] [] | _ => none }
noncomputable def laws_lwSame.cfg (N : Nat) : Cfg := { ty := tys, keep := [], flt := [], elm := [(22, (.own .imm)), (23, (.own (.own .imm))), (24, (.own .imm)), (25, (.pr (.own (.own .imm)) (.pr .imm (.pr (.own .imm) .imm)))), (26, (.pr (.own (.own .imm)) (.pr .imm (.pr (.own .imm) .imm)))), (37, (.pr (.pr (.own (.own .imm)) (.pr .imm (.pr (.own .imm) .imm))) (.pr (.own .imm) .imm))), (38, (.pr (.pr (.own (.own .imm)) (.pr .imm (.pr (.own .imm) .imm))) (.pr (.own .imm) .imm))), (54, (.pr (.own .imm) .imm)), (55, (.pr (.own .imm) .imm)), (58, (.own .imm))], live := [(4, [0, 1, 5])], ord := [(6, [0, 1, 2, 3, 4, 5, 6, 7, 8])], con := [], loops := [(4, loopCon N laws_lwSame.sk4 laws_lwSame.xs4 (fun {R} => laws_lwSame.l4 (R := R) N))], joins := [] }
theorem laws_lwSame.cons (N : Nat) : ConsOk Try.prog (laws_lwSame.cfg N).con := consOk_nil
theorem laws_lwSame.h4 {R : Type} (N : Nat) (d : laws_lwSame.sk4.D) (kn : laws_lwSame.sk4.D → Option R) (kx : XD laws_lwSame.xs4 → Option R) : roundK (laws_lwSame.cfg N) N (nthLoop (fnBody Try.f10) 0) laws_lwSame.sk4 laws_lwSame.xs4 d kn kx = laws_lwSame.l4 N d kn kx := by kernel_rfl
theorem laws_lwSame.i4 (N : Nat) : LoopsOk Try.prog (laws_lwSame.cfg N) (nthLoop (fnBody Try.f10) 0) := loopsL (l := []) (by kernel_rfl) trivial
theorem laws_lwSame.o4 (N : Nat) : LoopOk Try.prog (nthLoop (fnBody Try.f10) 0) (loopCon N laws_lwSame.sk4 laws_lwSame.xs4 (fun {R} => laws_lwSame.l4 (R := R) N)) := loop_ok (g := laws_lwSame.cfg N) tys_ok (laws_lwSame.cons N) mixed (laws_lwSame.i4 N) (fun d kn kx => laws_lwSame.h4 N d kn kx)
theorem laws_lwSame.ls (N : Nat) : LoopsOk Try.prog (laws_lwSame.cfg N) (fnBody Try.f10) := loopsL (l := [nthLoop (fnBody Try.f10) 0]) (by kernel_rfl) ⟨loopOne (L0 := loopCon N laws_lwSame.sk4 laws_lwSame.xs4 (fun {R} => laws_lwSame.l4 (R := R) N)) (id := 4) (by kernel_rfl) (by kernel_rfl) (laws_lwSame.o4 N), trivial⟩
theorem laws_lwSame.q4 {R R' : Type} {N n : Nat} {d} {k} {g : R → Option R'} : bindF (loopP (laws_lwSame.l4 N) n d k) g = loopP (laws_lwSame.l4 N) n d fun e => bindF (k e) g := bindF_loopP (fun d kn kx => by simp only [laws_lwSame.l4, bindF_ifB, bindF_bindO, bindF_pure, bindF_none, bindF_onSum]) n d k
theorem laws_lwSame.b (N : Nat) (x0 : den (.sl 2 (.int .i64))) (x1 : den (.sl 2 (.int .i64))) : body (laws_lwSame.cfg N) N Try.f10 [.one, .one] [.v, .v] [(false, .imm)] [⟨(.sl 2 (.int .i64)), .imm, x0⟩, ⟨(.sl 2 (.int .i64)), .imm, x1⟩] (fun r i => some (r, i)) = bindO (laws_lwSame N x0 x1) fun r => some ([⟨.bool, .imm, r⟩], []) := by
  show _ = bindF _ _
  conv => rhs; simp only [laws_lwSame, bindF_ifB, bindF_bindO, bindF_pure, bindF_none, bindF_onSum, laws_lwSame.q4]
  kernel_rfl
theorem laws_lwSame.ok (N : Nat) : ConOk Try.prog 10 [.one, .one] (laws_lwSame.con N) := by
  refine conOk_mk (g := laws_lwSame.cfg N) (N := N) (res := [(false, .imm)]) tys_ok (laws_lwSame.cons N) mixed Try.func10 (laws_lwSame.ls N) rfl rfl ?_
  intro ds R k y h
  cases ds with
  | nil => exact none_some h
  | cons d0 ds =>
  cases ds with
  | nil => exact none_some h
  | cons d1 ds =>
  cases ds with
  | cons _ _ => exact none_some h
  | nil =>
  have h0 : (castDm (.sl 2 (.int .i64)) .imm d0 fun x0 => castDm (.sl 2 (.int .i64)) .imm d1 fun x1 => bindO (laws_lwSame N x0 x1) fun r => k [⟨.bool, .imm, r⟩] []) = some y := h
  clear h
  obtain ⟨x0, rfl, h1⟩ := castDm_eq h0
  obtain ⟨x1, rfl, h2⟩ := castDm_eq h1
  exact con_fin (laws_lwSame.b N x0 x1) h2
theorem laws_lwSame.det (N : Nat) : ConDet (laws_lwSame.con N) := by
  intro ds R k y h
  cases ds with
  | nil => exact none_some h
  | cons d0 ds =>
  cases ds with
  | nil => exact none_some h
  | cons d1 ds =>
  cases ds with
  | cons _ _ => exact none_some h
  | nil =>
  have h0 : (castDm (.sl 2 (.int .i64)) .imm d0 fun x0 => castDm (.sl 2 (.int .i64)) .imm d1 fun x1 => bindO (laws_lwSame N x0 x1) fun r => k [⟨.bool, .imm, r⟩] []) = some y := h
  clear h
  obtain ⟨x0, rfl, h1⟩ := castDm_eq h0
  obtain ⟨x1, rfl, h2⟩ := castDm_eq h1
  obtain ⟨r, e, h⟩ := bindO_some h2
  refine ⟨_, _, h, fun k' => ?_⟩
  show (castDm (.sl 2 (.int .i64)) .imm (⟨(.sl 2 (.int .i64)), .imm, x0⟩ : Dy) fun x0 => castDm (.sl 2 (.int .i64)) .imm (⟨(.sl 2 (.int .i64)), .imm, x1⟩ : Dy) fun x1 => bindO (laws_lwSame N x0 x1) fun r => k' [⟨.bool, .imm, r⟩] []) = _
  simp only [castDm_self]
  rw [e]
  rfl
noncomputable def laws_lwAt.con (N : Nat) : Con := { modes := [.v, .v, .v], ptrs := [false], fn := fun ds k => match ds with | [d0, d1, d2] => castDm (.sl 5 (.int .u8)) .imm d0 fun x0 => castDm (.int .i64) .imm d1 fun x1 => castDm (.int .i64) .imm d2 fun x2 => bindO (laws_lwAt N x0 x1 x2) fun r => k [⟨(.int .i64), .imm, r⟩] [] | _ => none }
noncomputable def laws_lwAt.cfg (N : Nat) : Cfg := { ty := tys, keep := [], flt := [], elm := [(22, (.own .imm)), (23, (.own (.own .imm))), (24, (.own .imm)), (25, (.pr (.own (.own .imm)) (.pr .imm (.pr (.own .imm) .imm)))), (26, (.pr (.own (.own .imm)) (.pr .imm (.pr (.own .imm) .imm)))), (37, (.pr (.pr (.own (.own .imm)) (.pr .imm (.pr (.own .imm) .imm))) (.pr (.own .imm) .imm))), (38, (.pr (.pr (.own (.own .imm)) (.pr .imm (.pr (.own .imm) .imm))) (.pr (.own .imm) .imm))), (54, (.pr (.own .imm) .imm)), (55, (.pr (.own .imm) .imm)), (58, (.own .imm))], live := [], ord := [], con := [], loops := [], joins := [] }
theorem laws_lwAt.cons (N : Nat) : ConsOk Try.prog (laws_lwAt.cfg N).con := consOk_nil
theorem laws_lwAt.ls (N : Nat) : LoopsOk Try.prog (laws_lwAt.cfg N) (fnBody Try.f13) := loopsL (l := []) (by kernel_rfl) trivial
theorem laws_lwAt.b (N : Nat) (x0 : den (.sl 5 (.int .u8))) (x1 : den (.int .i64)) (x2 : den (.int .i64)) : body (laws_lwAt.cfg N) N Try.f13 [.one, .one, .one] [.v, .v, .v] [(false, .imm)] [⟨(.sl 5 (.int .u8)), .imm, x0⟩, ⟨(.int .i64), .imm, x1⟩, ⟨(.int .i64), .imm, x2⟩] (fun r i => some (r, i)) = bindO (laws_lwAt N x0 x1 x2) fun r => some ([⟨(.int .i64), .imm, r⟩], []) := by
  show _ = bindF _ _
  conv => rhs; simp only [laws_lwAt, bindF_ifB, bindF_bindO, bindF_pure, bindF_none, bindF_onSum]
  kernel_rfl
theorem laws_lwAt.ok (N : Nat) : ConOk Try.prog 13 [.one, .one, .one] (laws_lwAt.con N) := by
  refine conOk_mk (g := laws_lwAt.cfg N) (N := N) (res := [(false, .imm)]) tys_ok (laws_lwAt.cons N) mixed Try.func13 (laws_lwAt.ls N) rfl rfl ?_
  intro ds R k y h
  cases ds with
  | nil => exact none_some h
  | cons d0 ds =>
  cases ds with
  | nil => exact none_some h
  | cons d1 ds =>
  cases ds with
  | nil => exact none_some h
  | cons d2 ds =>
  cases ds with
  | cons _ _ => exact none_some h
  | nil =>
  have h0 : (castDm (.sl 5 (.int .u8)) .imm d0 fun x0 => castDm (.int .i64) .imm d1 fun x1 => castDm (.int .i64) .imm d2 fun x2 => bindO (laws_lwAt N x0 x1 x2) fun r => k [⟨(.int .i64), .imm, r⟩] []) = some y := h
  clear h
  obtain ⟨x0, rfl, h1⟩ := castDm_eq h0
  obtain ⟨x1, rfl, h2⟩ := castDm_eq h1
  obtain ⟨x2, rfl, h3⟩ := castDm_eq h2
  exact con_fin (laws_lwAt.b N x0 x1 x2) h3
theorem laws_lwAt.det (N : Nat) : ConDet (laws_lwAt.con N) := by
  intro ds R k y h
  cases ds with
  | nil => exact none_some h
  | cons d0 ds =>
  cases ds with
  | nil => exact none_some h
  | cons d1 ds =>
  cases ds with
  | nil => exact none_some h
  | cons d2 ds =>
  cases ds with
  | cons _ _ => exact none_some h
  | nil =>
  have h0 : (castDm (.sl 5 (.int .u8)) .imm d0 fun x0 => castDm (.int .i64) .imm d1 fun x1 => castDm (.int .i64) .imm d2 fun x2 => bindO (laws_lwAt N x0 x1 x2) fun r => k [⟨(.int .i64), .imm, r⟩] []) = some y := h
  clear h
  obtain ⟨x0, rfl, h1⟩ := castDm_eq h0
  obtain ⟨x1, rfl, h2⟩ := castDm_eq h1
  obtain ⟨x2, rfl, h3⟩ := castDm_eq h2
  obtain ⟨r, e, h⟩ := bindO_some h3
  refine ⟨_, _, h, fun k' => ?_⟩
  show (castDm (.sl 5 (.int .u8)) .imm (⟨(.sl 5 (.int .u8)), .imm, x0⟩ : Dy) fun x0 => castDm (.int .i64) .imm (⟨(.int .i64), .imm, x1⟩ : Dy) fun x1 => castDm (.int .i64) .imm (⟨(.int .i64), .imm, x2⟩ : Dy) fun x2 => bindO (laws_lwAt N x0 x1 x2) fun r => k' [⟨(.int .i64), .imm, r⟩] []) = _
  simp only [castDm_self]
  rw [e]
  rfl
noncomputable def spec_PointsOf.con (N : Nat) : Con := { modes := [.v], ptrs := [false], fn := fun ds k => match ds with | [d0] => castDm .str .imm d0 fun x0 => bindO (spec_PointsOf N x0) fun r => k [⟨(.sl 2 (.int .i64)), (.own .imm), r⟩] [] | _ => none }
noncomputable def spec_PointsOf.cfg (N : Nat) : Cfg := { ty := tys, keep := [9], flt := [], elm := [(22, (.own .imm)), (23, (.own (.own .imm))), (24, (.own .imm)), (25, (.pr (.own (.own .imm)) (.pr .imm (.pr (.own .imm) .imm)))), (26, (.pr (.own (.own .imm)) (.pr .imm (.pr (.own .imm) .imm)))), (37, (.pr (.pr (.own (.own .imm)) (.pr .imm (.pr (.own .imm) .imm))) (.pr (.own .imm) .imm))), (38, (.pr (.pr (.own (.own .imm)) (.pr .imm (.pr (.own .imm) .imm))) (.pr (.own .imm) .imm))), (54, (.pr (.own .imm) .imm)), (55, (.pr (.own .imm) .imm)), (58, (.own .imm))], live := [], ord := [], con := [((31, [.one]), spec_l01Points.con N)], loops := [], joins := [] }
theorem spec_PointsOf.cons (N : Nat) : ConsOk Try.prog (spec_PointsOf.cfg N).con := (consOk_cons (hb31) (spec_l01Points.ok N) (spec_l01Points.det N) consOk_nil)
theorem spec_PointsOf.ls (N : Nat) : LoopsOk Try.prog (spec_PointsOf.cfg N) (fnBody Try.f12) := loopsL (l := []) (by kernel_rfl) trivial
theorem spec_PointsOf.b (N : Nat) (x0 : den .str) : body (spec_PointsOf.cfg N) N Try.f12 [.one] [.v] [(false, (.own .imm))] [⟨.str, .imm, x0⟩] (fun r i => some (r, i)) = bindO (spec_PointsOf N x0) fun r => some ([⟨(.sl 2 (.int .i64)), (.own .imm), r⟩], []) := by
  show _ = bindF _ _
  conv => rhs; simp only [spec_PointsOf, bindF_ifB, bindF_bindO, bindF_pure, bindF_none, bindF_onSum]
  kernel_rfl
theorem spec_PointsOf.ok (N : Nat) : ConOk Try.prog 12 [.one] (spec_PointsOf.con N) := by
  refine conOk_mk (g := spec_PointsOf.cfg N) (N := N) (res := [(false, (.own .imm))]) tys_ok (spec_PointsOf.cons N) mixed Try.func12 (spec_PointsOf.ls N) rfl rfl ?_
  intro ds R k y h
  cases ds with
  | nil => exact none_some h
  | cons d0 ds =>
  cases ds with
  | cons _ _ => exact none_some h
  | nil =>
  have h0 : (castDm .str .imm d0 fun x0 => bindO (spec_PointsOf N x0) fun r => k [⟨(.sl 2 (.int .i64)), (.own .imm), r⟩] []) = some y := h
  clear h
  obtain ⟨x0, rfl, h1⟩ := castDm_eq h0
  exact con_fin (spec_PointsOf.b N x0) h1
theorem spec_PointsOf.det (N : Nat) : ConDet (spec_PointsOf.con N) := by
  intro ds R k y h
  cases ds with
  | nil => exact none_some h
  | cons d0 ds =>
  cases ds with
  | cons _ _ => exact none_some h
  | nil =>
  have h0 : (castDm .str .imm d0 fun x0 => bindO (spec_PointsOf N x0) fun r => k [⟨(.sl 2 (.int .i64)), (.own .imm), r⟩] []) = some y := h
  clear h
  obtain ⟨x0, rfl, h1⟩ := castDm_eq h0
  obtain ⟨r, e, h⟩ := bindO_some h1
  refine ⟨_, _, h, fun k' => ?_⟩
  show (castDm .str .imm (⟨.str, .imm, x0⟩ : Dy) fun x0 => bindO (spec_PointsOf N x0) fun r => k' [⟨(.sl 2 (.int .i64)), (.own .imm), r⟩] []) = _
  simp only [castDm_self]
  rw [e]
  rfl
noncomputable def impl_begins.con (N : Nat) : Con := { modes := [.v, .v], ptrs := [false], fn := fun ds k => match ds with | [d0, d1] => castDm (.sl 2 (.int .i64)) .imm d0 fun x0 => castDm (.sl 2 (.int .i64)) .imm d1 fun x1 => bindO (impl_begins N x0 x1) fun r => k [⟨.bool, .imm, r⟩] [] | _ => none }
noncomputable def impl_begins.cfg (N : Nat) : Cfg := { ty := tys, keep := [16], flt := [], elm := [(22, (.own .imm)), (23, (.own (.own .imm))), (24, (.own .imm)), (25, (.pr (.own (.own .imm)) (.pr .imm (.pr (.own .imm) .imm)))), (26, (.pr (.own (.own .imm)) (.pr .imm (.pr (.own .imm) .imm)))), (37, (.pr (.pr (.own (.own .imm)) (.pr .imm (.pr (.own .imm) .imm))) (.pr (.own .imm) .imm))), (38, (.pr (.pr (.own (.own .imm)) (.pr .imm (.pr (.own .imm) .imm))) (.pr (.own .imm) .imm))), (54, (.pr (.own .imm) .imm)), (55, (.pr (.own .imm) .imm)), (58, (.own .imm))], live := [], ord := [], con := [((26, [.one, .one]), slices_Equal_Sint64_int64.con N)], loops := [], joins := [] }
theorem impl_begins.cons (N : Nat) : ConsOk Try.prog (impl_begins.cfg N).con := (consOk_cons (hb26) (slices_Equal_Sint64_int64.ok N) (slices_Equal_Sint64_int64.det N) consOk_nil)
theorem impl_begins.ls (N : Nat) : LoopsOk Try.prog (impl_begins.cfg N) (fnBody Try.f32) := loopsL (l := []) (by kernel_rfl) trivial
theorem impl_begins.b (N : Nat) (x0 : den (.sl 2 (.int .i64))) (x1 : den (.sl 2 (.int .i64))) : body (impl_begins.cfg N) N Try.f32 [.one, .one] [.v, .v] [(false, .imm)] [⟨(.sl 2 (.int .i64)), .imm, x0⟩, ⟨(.sl 2 (.int .i64)), .imm, x1⟩] (fun r i => some (r, i)) = bindO (impl_begins N x0 x1) fun r => some ([⟨.bool, .imm, r⟩], []) := by
  show _ = bindF _ _
  conv => rhs; simp only [impl_begins, bindF_ifB, bindF_bindO, bindF_pure, bindF_none, bindF_onSum]
  kernel_rfl
theorem impl_begins.ok (N : Nat) : ConOk Try.prog 32 [.one, .one] (impl_begins.con N) := by
  refine conOk_mk (g := impl_begins.cfg N) (N := N) (res := [(false, .imm)]) tys_ok (impl_begins.cons N) mixed Try.func32 (impl_begins.ls N) rfl rfl ?_
  intro ds R k y h
  cases ds with
  | nil => exact none_some h
  | cons d0 ds =>
  cases ds with
  | nil => exact none_some h
  | cons d1 ds =>
  cases ds with
  | cons _ _ => exact none_some h
  | nil =>
  have h0 : (castDm (.sl 2 (.int .i64)) .imm d0 fun x0 => castDm (.sl 2 (.int .i64)) .imm d1 fun x1 => bindO (impl_begins N x0 x1) fun r => k [⟨.bool, .imm, r⟩] []) = some y := h
  clear h
  obtain ⟨x0, rfl, h1⟩ := castDm_eq h0
  obtain ⟨x1, rfl, h2⟩ := castDm_eq h1
  exact con_fin (impl_begins.b N x0 x1) h2
theorem impl_begins.det (N : Nat) : ConDet (impl_begins.con N) := by
  intro ds R k y h
  cases ds with
  | nil => exact none_some h
  | cons d0 ds =>
  cases ds with
  | nil => exact none_some h
  | cons d1 ds =>
  cases ds with
  | cons _ _ => exact none_some h
  | nil =>
  have h0 : (castDm (.sl 2 (.int .i64)) .imm d0 fun x0 => castDm (.sl 2 (.int .i64)) .imm d1 fun x1 => bindO (impl_begins N x0 x1) fun r => k [⟨.bool, .imm, r⟩] []) = some y := h
  clear h
  obtain ⟨x0, rfl, h1⟩ := castDm_eq h0
  obtain ⟨x1, rfl, h2⟩ := castDm_eq h1
  obtain ⟨r, e, h⟩ := bindO_some h2
  refine ⟨_, _, h, fun k' => ?_⟩
  show (castDm (.sl 2 (.int .i64)) .imm (⟨(.sl 2 (.int .i64)), .imm, x0⟩ : Dy) fun x0 => castDm (.sl 2 (.int .i64)) .imm (⟨(.sl 2 (.int .i64)), .imm, x1⟩ : Dy) fun x1 => bindO (impl_begins N x0 x1) fun r => k' [⟨.bool, .imm, r⟩] []) = _
  simp only [castDm_self]
  rw [e]
  rfl
def impl_HistUp.sk6 : Skel := ⟨[.dead, .pv (.sl 2 (.int .i64)), .pv (.sl 2 (.int .i64)), .ptr 50 [], .dead, .dead, .ptr 51 [], .pv (.int .i64), .dead, .dead, .dead, .dead, .dead, .dead, .dead, .dead, .dead, .dead, .dead, .dead, .dead, .dead, .dead, .dead, .dead, .dead, .dead, .dead, .dead, .dead, .dead, .dead, .dead, .dead, .dead, .dead, .dead, .dead, .dead, .dead, .dead, .dead, .dead, .dead, .dead, .dead, .dead, .dead, .dead, .dead, .dead, .dead, .dead, .dead, .dead, .dead, .dead, .dead, .dead, .dead, .dead, .dead, .dead, .dead, .dead, .dead, .dead, .dead, .dead, .dead, .dead, .dead, .dead, .dead, .dead], [⟨50, (.pair (.sl 24 (.sl 2 (.int .i64))) (.pair (.int .i64) (.pair (.sl 2 (.int .i64)) .unit))), .imm, true, false⟩, ⟨51, (.pair (.pair (.sl 24 (.sl 2 (.int .i64))) (.pair (.int .i64) (.pair (.sl 2 (.int .i64)) .unit))) (.pair (.sl 2 (.int .i64)) (.pair (.int .i64) .unit))), (.pr (.pr (.own (.own .imm)) (.pr .imm (.pr (.own .imm) .imm))) (.pr (.own .imm) .imm)), true, false⟩]⟩
def impl_HistUp.xs6 : List XS := [⟨.exit 1, [1, 3, 6, 7], ⟨[.dead, .pv (.sl 2 (.int .i64)), .dead, .ptr 50 [], .dead, .dead, .ptr 51 [], .pv (.int .i64), .dead, .dead, .dead, .dead, .dead, .dead, .dead, .dead, .dead, .dead, .dead, .dead, .dead, .dead, .dead, .dead, .dead, .dead, .dead, .dead, .dead, .dead, .dead, .dead, .dead, .dead, .dead, .dead, .dead, .dead, .dead, .dead, .dead, .dead, .dead, .dead, .dead, .dead, .dead, .dead, .dead, .dead, .dead, .dead, .dead, .dead, .dead, .dead, .dead, .dead, .dead, .dead, .dead, .dead, .dead, .dead, .dead, .dead, .dead, .dead, .dead, .dead, .dead, .dead, .dead, .dead, .dead], [⟨50, (.pair (.sl 24 (.sl 2 (.int .i64))) (.pair (.int .i64) (.pair (.sl 2 (.int .i64)) .unit))), .imm, true, false⟩, ⟨51, (.pair (.pair (.sl 24 (.sl 2 (.int .i64))) (.pair (.int .i64) (.pair (.sl 2 (.int .i64)) .unit))) (.pair (.sl 2 (.int .i64)) (.pair (.int .i64) .unit))), (.pr (.pr (.own (.own .imm)) (.pr .imm (.pr (.own .imm) .imm))) (.pr (.own .imm) .imm)), true, false⟩]⟩⟩]
noncomputable def impl_HistUp.con (N : Nat) : Con := { modes := [.v, .v, .v], ptrs := [false], fn := fun ds k => match ds with | [d0, d1, d2] => castDm (.pair (.sl 24 (.sl 2 (.int .i64))) (.pair (.int .i64) (.pair (.sl 2 (.int .i64)) .unit))) .imm d0 fun x0 => castDm (.sl 2 (.int .i64)) .imm d1 fun x1 => castDm (.sl 2 (.int .i64)) .imm d2 fun x2 => bindO (impl_HistUp N x0 x1 x2) fun r => k [⟨(.pair (.pair (.sl 24 (.sl 2 (.int .i64))) (.pair (.int .i64) (.pair (.sl 2 (.int .i64)) .unit))) (.pair (.sl 2 (.int .i64)) (.pair (.int .i64) .unit))), (.pr (.pr (.own (.own .imm)) (.pr .imm (.pr (.own .imm) .imm))) (.pr (.own .imm) .imm)), r⟩] [] | _ => none }
noncomputable def impl_HistUp.cfg (N : Nat) : Cfg := { ty := tys, keep := [12, 16, 21, 25, 30, 46, 55, 60, 63, 73], flt := [], elm := [(22, (.own .imm)), (23, (.own (.own .imm))), (24, (.own .imm)), (25, (.pr (.own (.own .imm)) (.pr .imm (.pr (.own .imm) .imm)))), (26, (.pr (.own (.own .imm)) (.pr .imm (.pr (.own .imm) .imm)))), (37, (.pr (.pr (.own (.own .imm)) (.pr .imm (.pr (.own .imm) .imm))) (.pr (.own .imm) .imm))), (38, (.pr (.pr (.own (.own .imm)) (.pr .imm (.pr (.own .imm) .imm))) (.pr (.own .imm) .imm))), (54, (.pr (.own .imm) .imm)), (55, (.pr (.own .imm) .imm)), (58, (.own .imm))], live := [(6, [1, 2, 3, 6, 7, 40, 41, 42, 43, 44, 45, 46, 47])], ord := [(11, [0, 1, 2, 3, 4, 5]), (14, [0, 1, 2, 3, 4, 5, 6, 7, 8])], con := [((23, [.one]), impl_isMany.con N), ((9, [.one]), impl_HistRight.con N), ((25, [.one]), impl_PointsRight.con N), ((32, [.one, .one]), impl_begins.con N), ((24, [.one]), impl_ownHist.con N), ((28, [.one]), impl_size_SSint64.con N), ((27, [.one]), slices_Clone_Sint64_int64.con N)], loops := [(6, loopCon N impl_HistUp.sk6 impl_HistUp.xs6 (fun {R} => impl_HistUp.l6 (R := R) N))], joins := [] }
theorem impl_HistUp.cons (N : Nat) : ConsOk Try.prog (impl_HistUp.cfg N).con := (consOk_cons (hb23) (impl_isMany.ok N) (impl_isMany.det N) (consOk_cons (hb9) (impl_HistRight.ok N) (impl_HistRight.det N) (consOk_cons (hb25) (impl_PointsRight.ok N) (impl_PointsRight.det N) (consOk_cons (hb32) (impl_begins.ok N) (impl_begins.det N) (consOk_cons (hb24) (impl_ownHist.ok N) (impl_ownHist.det N) (consOk_cons (hb28) (impl_size_SSint64.ok N) (impl_size_SSint64.det N) (consOk_cons (hb27) (slices_Clone_Sint64_int64.ok N) (slices_Clone_Sint64_int64.det N) consOk_nil)))))))
theorem impl_HistUp.h6 {R : Type} (N : Nat) (d : impl_HistUp.sk6.D) (kn : impl_HistUp.sk6.D → Option R) (kx : XD impl_HistUp.xs6 → Option R) : roundK (impl_HistUp.cfg N) N (nthLoop (fnBody Try.f14) 0) impl_HistUp.sk6 impl_HistUp.xs6 d kn kx = impl_HistUp.l6 N d kn kx := by kernel_rfl
theorem impl_HistUp.i6 (N : Nat) : LoopsOk Try.prog (impl_HistUp.cfg N) (nthLoop (fnBody Try.f14) 0) := loopsL (l := []) (by kernel_rfl) trivial
theorem impl_HistUp.o6 (N : Nat) : LoopOk Try.prog (nthLoop (fnBody Try.f14) 0) (loopCon N impl_HistUp.sk6 impl_HistUp.xs6 (fun {R} => impl_HistUp.l6 (R := R) N)) := loop_ok (g := impl_HistUp.cfg N) tys_ok (impl_HistUp.cons N) mixed (impl_HistUp.i6 N) (fun d kn kx => impl_HistUp.h6 N d kn kx)
theorem impl_HistUp.ls (N : Nat) : LoopsOk Try.prog (impl_HistUp.cfg N) (fnBody Try.f14) := loopsL (l := [nthLoop (fnBody Try.f14) 0]) (by kernel_rfl) ⟨loopOne (L0 := loopCon N impl_HistUp.sk6 impl_HistUp.xs6 (fun {R} => impl_HistUp.l6 (R := R) N)) (id := 6) (by kernel_rfl) (by kernel_rfl) (impl_HistUp.o6 N), trivial⟩
theorem impl_HistUp.q6 {R R' : Type} {N n : Nat} {d} {k} {g : R → Option R'} : bindF (loopP (impl_HistUp.l6 N) n d k) g = loopP (impl_HistUp.l6 N) n d fun e => bindF (k e) g := bindF_loopP (fun d kn kx => by simp only [impl_HistUp.l6, bindF_ifB, bindF_bindO, bindF_pure, bindF_none, bindF_onSum]) n d k
theorem impl_HistUp.b (N : Nat) (x0 : den (.pair (.sl 24 (.sl 2 (.int .i64))) (.pair (.int .i64) (.pair (.sl 2 (.int .i64)) .unit)))) (x1 : den (.sl 2 (.int .i64))) (x2 : den (.sl 2 (.int .i64))) : body (impl_HistUp.cfg N) N Try.f14 [.one, .one, .one] [.v, .v, .v] [(false, (.pr (.pr (.own (.own .imm)) (.pr .imm (.pr (.own .imm) .imm))) (.pr (.own .imm) .imm)))] [⟨(.pair (.sl 24 (.sl 2 (.int .i64))) (.pair (.int .i64) (.pair (.sl 2 (.int .i64)) .unit))), .imm, x0⟩, ⟨(.sl 2 (.int .i64)), .imm, x1⟩, ⟨(.sl 2 (.int .i64)), .imm, x2⟩] (fun r i => some (r, i)) = bindO (impl_HistUp N x0 x1 x2) fun r => some ([⟨(.pair (.pair (.sl 24 (.sl 2 (.int .i64))) (.pair (.int .i64) (.pair (.sl 2 (.int .i64)) .unit))) (.pair (.sl 2 (.int .i64)) (.pair (.int .i64) .unit))), (.pr (.pr (.own (.own .imm)) (.pr .imm (.pr (.own .imm) .imm))) (.pr (.own .imm) .imm)), r⟩], []) := by
  show _ = bindF _ _
  conv => rhs; simp only [impl_HistUp, bindF_ifB, bindF_bindO, bindF_pure, bindF_none, bindF_onSum, impl_HistUp.q6]
  kernel_rfl
theorem impl_HistUp.ok (N : Nat) : ConOk Try.prog 14 [.one, .one, .one] (impl_HistUp.con N) := by
  refine conOk_mk (g := impl_HistUp.cfg N) (N := N) (res := [(false, (.pr (.pr (.own (.own .imm)) (.pr .imm (.pr (.own .imm) .imm))) (.pr (.own .imm) .imm)))]) tys_ok (impl_HistUp.cons N) mixed Try.func14 (impl_HistUp.ls N) rfl rfl ?_
  intro ds R k y h
  cases ds with
  | nil => exact none_some h
  | cons d0 ds =>
  cases ds with
  | nil => exact none_some h
  | cons d1 ds =>
  cases ds with
  | nil => exact none_some h
  | cons d2 ds =>
  cases ds with
  | cons _ _ => exact none_some h
  | nil =>
  have h0 : (castDm (.pair (.sl 24 (.sl 2 (.int .i64))) (.pair (.int .i64) (.pair (.sl 2 (.int .i64)) .unit))) .imm d0 fun x0 => castDm (.sl 2 (.int .i64)) .imm d1 fun x1 => castDm (.sl 2 (.int .i64)) .imm d2 fun x2 => bindO (impl_HistUp N x0 x1 x2) fun r => k [⟨(.pair (.pair (.sl 24 (.sl 2 (.int .i64))) (.pair (.int .i64) (.pair (.sl 2 (.int .i64)) .unit))) (.pair (.sl 2 (.int .i64)) (.pair (.int .i64) .unit))), (.pr (.pr (.own (.own .imm)) (.pr .imm (.pr (.own .imm) .imm))) (.pr (.own .imm) .imm)), r⟩] []) = some y := h
  clear h
  obtain ⟨x0, rfl, h1⟩ := castDm_eq h0
  obtain ⟨x1, rfl, h2⟩ := castDm_eq h1
  obtain ⟨x2, rfl, h3⟩ := castDm_eq h2
  exact con_fin (impl_HistUp.b N x0 x1 x2) h3
theorem impl_HistUp.det (N : Nat) : ConDet (impl_HistUp.con N) := by
  intro ds R k y h
  cases ds with
  | nil => exact none_some h
  | cons d0 ds =>
  cases ds with
  | nil => exact none_some h
  | cons d1 ds =>
  cases ds with
  | nil => exact none_some h
  | cons d2 ds =>
  cases ds with
  | cons _ _ => exact none_some h
  | nil =>
  have h0 : (castDm (.pair (.sl 24 (.sl 2 (.int .i64))) (.pair (.int .i64) (.pair (.sl 2 (.int .i64)) .unit))) .imm d0 fun x0 => castDm (.sl 2 (.int .i64)) .imm d1 fun x1 => castDm (.sl 2 (.int .i64)) .imm d2 fun x2 => bindO (impl_HistUp N x0 x1 x2) fun r => k [⟨(.pair (.pair (.sl 24 (.sl 2 (.int .i64))) (.pair (.int .i64) (.pair (.sl 2 (.int .i64)) .unit))) (.pair (.sl 2 (.int .i64)) (.pair (.int .i64) .unit))), (.pr (.pr (.own (.own .imm)) (.pr .imm (.pr (.own .imm) .imm))) (.pr (.own .imm) .imm)), r⟩] []) = some y := h
  clear h
  obtain ⟨x0, rfl, h1⟩ := castDm_eq h0
  obtain ⟨x1, rfl, h2⟩ := castDm_eq h1
  obtain ⟨x2, rfl, h3⟩ := castDm_eq h2
  obtain ⟨r, e, h⟩ := bindO_some h3
  refine ⟨_, _, h, fun k' => ?_⟩
  show (castDm (.pair (.sl 24 (.sl 2 (.int .i64))) (.pair (.int .i64) (.pair (.sl 2 (.int .i64)) .unit))) .imm (⟨(.pair (.sl 24 (.sl 2 (.int .i64))) (.pair (.int .i64) (.pair (.sl 2 (.int .i64)) .unit))), .imm, x0⟩ : Dy) fun x0 => castDm (.sl 2 (.int .i64)) .imm (⟨(.sl 2 (.int .i64)), .imm, x1⟩ : Dy) fun x1 => castDm (.sl 2 (.int .i64)) .imm (⟨(.sl 2 (.int .i64)), .imm, x2⟩ : Dy) fun x2 => bindO (impl_HistUp N x0 x1 x2) fun r => k' [⟨(.pair (.pair (.sl 24 (.sl 2 (.int .i64))) (.pair (.int .i64) (.pair (.sl 2 (.int .i64)) .unit))) (.pair (.sl 2 (.int .i64)) (.pair (.int .i64) .unit))), (.pr (.pr (.own (.own .imm)) (.pr .imm (.pr (.own .imm) .imm))) (.pr (.own .imm) .imm)), r⟩] []) = _
  simp only [castDm_self]
  rw [e]
  rfl
def impl_HistDown.sk9 : Skel := ⟨[.dead, .pv (.sl 2 (.int .i64)), .ptr 50 [], .dead, .ptr 51 [], .ptr 52 [], .pv (.sl 2 (.int .i64)), .dead, .dead, .dead, .dead, .dead, .dead, .dead, .dead, .dead, .dead, .dead, .dead, .dead, .dead, .dead, .dead, .dead, .dead, .dead, .dead, .dead, .dead, .dead, .dead, .dead, .dead, .dead, .dead, .dead, .dead, .dead, .dead, .dead, .dead, .dead, .dead, .dead, .dead, .dead, .dead, .dead, .dead, .dead, .dead, .dead, .dead, .dead, .dead, .dead, .dead, .dead, .dead, .dead, .dead, .dead, .dead, .dead, .dead, .dead], [⟨50, (.pair (.sl 24 (.sl 2 (.int .i64))) (.pair (.int .i64) (.pair (.sl 2 (.int .i64)) .unit))), .imm, true, false⟩, ⟨51, (.pair (.pair (.sl 24 (.sl 2 (.int .i64))) (.pair (.int .i64) (.pair (.sl 2 (.int .i64)) .unit))) (.pair (.sl 2 (.int .i64)) (.pair (.int .i64) .unit))), (.pr (.pr (.own (.own .imm)) (.pr .imm (.pr (.own .imm) .imm))) (.pr (.own .imm) .imm)), true, false⟩, ⟨52, (.pair (.sl 24 (.sl 2 (.int .i64))) (.pair (.int .i64) (.pair (.sl 2 (.int .i64)) .unit))), (.pr (.own (.own .imm)) (.pr .imm (.pr (.own .imm) .imm))), true, false⟩]⟩
def impl_HistDown.xs9 : List XS := [⟨.exit 1, [4, 5, 6], ⟨[.dead, .dead, .dead, .dead, .ptr 50 [], .ptr 51 [], .pv (.sl 2 (.int .i64)), .dead, .dead, .dead, .dead, .dead, .dead, .dead, .dead, .dead, .dead, .dead, .dead, .dead, .dead, .dead, .dead, .dead, .dead, .dead, .dead, .dead, .dead, .dead, .dead, .dead, .dead, .dead, .dead, .dead, .dead, .dead, .dead, .dead, .dead, .dead, .dead, .dead, .dead, .dead, .dead, .dead, .dead, .dead, .dead, .dead, .dead, .dead, .dead, .dead, .dead, .dead, .dead, .dead, .dead, .dead, .dead, .dead, .dead, .dead], [⟨50, (.pair (.pair (.sl 24 (.sl 2 (.int .i64))) (.pair (.int .i64) (.pair (.sl 2 (.int .i64)) .unit))) (.pair (.sl 2 (.int .i64)) (.pair (.int .i64) .unit))), (.pr (.pr (.own (.own .imm)) (.pr .imm (.pr (.own .imm) .imm))) (.pr (.own .imm) .imm)), true, false⟩, ⟨51, (.pair (.sl 24 (.sl 2 (.int .i64))) (.pair (.int .i64) (.pair (.sl 2 (.int .i64)) .unit))), (.pr (.own (.own .imm)) (.pr .imm (.pr (.own .imm) .imm))), true, false⟩]⟩⟩]
noncomputable def impl_HistDown.con (N : Nat) : Con := { modes := [.v, .v], ptrs := [false], fn := fun ds k => match ds with | [d0, d1] => castDm (.pair (.sl 24 (.sl 2 (.int .i64))) (.pair (.int .i64) (.pair (.sl 2 (.int .i64)) .unit))) .imm d0 fun x0 => castDm (.sl 2 (.int .i64)) .imm d1 fun x1 => bindO (impl_HistDown N x0 x1) fun r => k [⟨(.pair (.pair (.sl 24 (.sl 2 (.int .i64))) (.pair (.int .i64) (.pair (.sl 2 (.int .i64)) .unit))) (.pair (.sl 2 (.int .i64)) (.pair (.int .i64) .unit))), (.pr (.pr (.own (.own .imm)) (.pr .imm (.pr (.own .imm) .imm))) (.pr (.own .imm) .imm)), r⟩] [] | _ => none }
noncomputable def impl_HistDown.cfg (N : Nat) : Cfg := { ty := tys, keep := [10, 14, 18, 27, 31, 42, 55, 64], flt := [], elm := [(22, (.own .imm)), (23, (.own (.own .imm))), (24, (.own .imm)), (25, (.pr (.own (.own .imm)) (.pr .imm (.pr (.own .imm) .imm)))), (26, (.pr (.own (.own .imm)) (.pr .imm (.pr (.own .imm) .imm)))), (37, (.pr (.pr (.own (.own .imm)) (.pr .imm (.pr (.own .imm) .imm))) (.pr (.own .imm) .imm))), (38, (.pr (.pr (.own (.own .imm)) (.pr .imm (.pr (.own .imm) .imm))) (.pr (.own .imm) .imm))), (54, (.pr (.own .imm) .imm)), (55, (.pr (.own .imm) .imm)), (58, (.own .imm))], live := [(9, [1, 2, 4, 5, 6])], ord := [(5, [0, 1, 2, 3, 4, 5, 6]), (7, [4, 0, 2, 3, 1, 5, 6]), (9, [0, 1, 2, 3, 4, 5]), (13, [0, 1, 2, 3, 4])], con := [((23, [.one]), impl_isMany.con N), ((9, [.one]), impl_HistRight.con N), ((25, [.one]), impl_PointsRight.con N), ((28, [.one]), impl_size_SSint64.con N), ((24, [.one]), impl_ownHist.con N), ((32, [.one, .one]), impl_begins.con N), ((27, [.one]), slices_Clone_Sint64_int64.con N)], loops := [(9, loopCon N impl_HistDown.sk9 impl_HistDown.xs9 (fun {R} => impl_HistDown.l9 (R := R) N))], joins := [] }
theorem impl_HistDown.cons (N : Nat) : ConsOk Try.prog (impl_HistDown.cfg N).con := (consOk_cons (hb23) (impl_isMany.ok N) (impl_isMany.det N) (consOk_cons (hb9) (impl_HistRight.ok N) (impl_HistRight.det N) (consOk_cons (hb25) (impl_PointsRight.ok N) (impl_PointsRight.det N) (consOk_cons (hb28) (impl_size_SSint64.ok N) (impl_size_SSint64.det N) (consOk_cons (hb24) (impl_ownHist.ok N) (impl_ownHist.det N) (consOk_cons (hb32) (impl_begins.ok N) (impl_begins.det N) (consOk_cons (hb27) (slices_Clone_Sint64_int64.ok N) (slices_Clone_Sint64_int64.det N) consOk_nil)))))))
theorem impl_HistDown.h9 {R : Type} (N : Nat) (d : impl_HistDown.sk9.D) (kn : impl_HistDown.sk9.D → Option R) (kx : XD impl_HistDown.xs9 → Option R) : roundK (impl_HistDown.cfg N) N (nthLoop (fnBody Try.f15) 0) impl_HistDown.sk9 impl_HistDown.xs9 d kn kx = impl_HistDown.l9 N d kn kx := by kernel_rfl
theorem impl_HistDown.i9 (N : Nat) : LoopsOk Try.prog (impl_HistDown.cfg N) (nthLoop (fnBody Try.f15) 0) := loopsL (l := []) (by kernel_rfl) trivial
theorem impl_HistDown.o9 (N : Nat) : LoopOk Try.prog (nthLoop (fnBody Try.f15) 0) (loopCon N impl_HistDown.sk9 impl_HistDown.xs9 (fun {R} => impl_HistDown.l9 (R := R) N)) := loop_ok (g := impl_HistDown.cfg N) tys_ok (impl_HistDown.cons N) mixed (impl_HistDown.i9 N) (fun d kn kx => impl_HistDown.h9 N d kn kx)
theorem impl_HistDown.ls (N : Nat) : LoopsOk Try.prog (impl_HistDown.cfg N) (fnBody Try.f15) := loopsL (l := [nthLoop (fnBody Try.f15) 0]) (by kernel_rfl) ⟨loopOne (L0 := loopCon N impl_HistDown.sk9 impl_HistDown.xs9 (fun {R} => impl_HistDown.l9 (R := R) N)) (id := 9) (by kernel_rfl) (by kernel_rfl) (impl_HistDown.o9 N), trivial⟩
theorem impl_HistDown.q9 {R R' : Type} {N n : Nat} {d} {k} {g : R → Option R'} : bindF (loopP (impl_HistDown.l9 N) n d k) g = loopP (impl_HistDown.l9 N) n d fun e => bindF (k e) g := bindF_loopP (fun d kn kx => by simp only [impl_HistDown.l9, bindF_ifB, bindF_bindO, bindF_pure, bindF_none, bindF_onSum]) n d k
theorem impl_HistDown.b (N : Nat) (x0 : den (.pair (.sl 24 (.sl 2 (.int .i64))) (.pair (.int .i64) (.pair (.sl 2 (.int .i64)) .unit)))) (x1 : den (.sl 2 (.int .i64))) : body (impl_HistDown.cfg N) N Try.f15 [.one, .one] [.v, .v] [(false, (.pr (.pr (.own (.own .imm)) (.pr .imm (.pr (.own .imm) .imm))) (.pr (.own .imm) .imm)))] [⟨(.pair (.sl 24 (.sl 2 (.int .i64))) (.pair (.int .i64) (.pair (.sl 2 (.int .i64)) .unit))), .imm, x0⟩, ⟨(.sl 2 (.int .i64)), .imm, x1⟩] (fun r i => some (r, i)) = bindO (impl_HistDown N x0 x1) fun r => some ([⟨(.pair (.pair (.sl 24 (.sl 2 (.int .i64))) (.pair (.int .i64) (.pair (.sl 2 (.int .i64)) .unit))) (.pair (.sl 2 (.int .i64)) (.pair (.int .i64) .unit))), (.pr (.pr (.own (.own .imm)) (.pr .imm (.pr (.own .imm) .imm))) (.pr (.own .imm) .imm)), r⟩], []) := by
  show _ = bindF _ _
  conv => rhs; simp only [impl_HistDown, bindF_ifB, bindF_bindO, bindF_pure, bindF_none, bindF_onSum, impl_HistDown.q9]
  kernel_rfl
theorem impl_HistDown.ok (N : Nat) : ConOk Try.prog 15 [.one, .one] (impl_HistDown.con N) := by
  refine conOk_mk (g := impl_HistDown.cfg N) (N := N) (res := [(false, (.pr (.pr (.own (.own .imm)) (.pr .imm (.pr (.own .imm) .imm))) (.pr (.own .imm) .imm)))]) tys_ok (impl_HistDown.cons N) mixed Try.func15 (impl_HistDown.ls N) rfl rfl ?_
  intro ds R k y h
  cases ds with
  | nil => exact none_some h
  | cons d0 ds =>
  cases ds with
  | nil => exact none_some h
  | cons d1 ds =>
  cases ds with
  | cons _ _ => exact none_some h
  | nil =>
  have h0 : (castDm (.pair (.sl 24 (.sl 2 (.int .i64))) (.pair (.int .i64) (.pair (.sl 2 (.int .i64)) .unit))) .imm d0 fun x0 => castDm (.sl 2 (.int .i64)) .imm d1 fun x1 => bindO (impl_HistDown N x0 x1) fun r => k [⟨(.pair (.pair (.sl 24 (.sl 2 (.int .i64))) (.pair (.int .i64) (.pair (.sl 2 (.int .i64)) .unit))) (.pair (.sl 2 (.int .i64)) (.pair (.int .i64) .unit))), (.pr (.pr (.own (.own .imm)) (.pr .imm (.pr (.own .imm) .imm))) (.pr (.own .imm) .imm)), r⟩] []) = some y := h
  clear h
  obtain ⟨x0, rfl, h1⟩ := castDm_eq h0
  obtain ⟨x1, rfl, h2⟩ := castDm_eq h1
  exact con_fin (impl_HistDown.b N x0 x1) h2
theorem impl_HistDown.det (N : Nat) : ConDet (impl_HistDown.con N) := by
  intro ds R k y h
  cases ds with
  | nil => exact none_some h
  | cons d0 ds =>
  cases ds with
  | nil => exact none_some h
  | cons d1 ds =>
  cases ds with
  | cons _ _ => exact none_some h
  | nil =>
  have h0 : (castDm (.pair (.sl 24 (.sl 2 (.int .i64))) (.pair (.int .i64) (.pair (.sl 2 (.int .i64)) .unit))) .imm d0 fun x0 => castDm (.sl 2 (.int .i64)) .imm d1 fun x1 => bindO (impl_HistDown N x0 x1) fun r => k [⟨(.pair (.pair (.sl 24 (.sl 2 (.int .i64))) (.pair (.int .i64) (.pair (.sl 2 (.int .i64)) .unit))) (.pair (.sl 2 (.int .i64)) (.pair (.int .i64) .unit))), (.pr (.pr (.own (.own .imm)) (.pr .imm (.pr (.own .imm) .imm))) (.pr (.own .imm) .imm)), r⟩] []) = some y := h
  clear h
  obtain ⟨x0, rfl, h1⟩ := castDm_eq h0
  obtain ⟨x1, rfl, h2⟩ := castDm_eq h1
  obtain ⟨r, e, h⟩ := bindO_some h2
  refine ⟨_, _, h, fun k' => ?_⟩
  show (castDm (.pair (.sl 24 (.sl 2 (.int .i64))) (.pair (.int .i64) (.pair (.sl 2 (.int .i64)) .unit))) .imm (⟨(.pair (.sl 24 (.sl 2 (.int .i64))) (.pair (.int .i64) (.pair (.sl 2 (.int .i64)) .unit))), .imm, x0⟩ : Dy) fun x0 => castDm (.sl 2 (.int .i64)) .imm (⟨(.sl 2 (.int .i64)), .imm, x1⟩ : Dy) fun x1 => bindO (impl_HistDown N x0 x1) fun r => k' [⟨(.pair (.pair (.sl 24 (.sl 2 (.int .i64))) (.pair (.int .i64) (.pair (.sl 2 (.int .i64)) .unit))) (.pair (.sl 2 (.int .i64)) (.pair (.int .i64) .unit))), (.pr (.pr (.own (.own .imm)) (.pr .imm (.pr (.own .imm) .imm))) (.pr (.own .imm) .imm)), r⟩] []) = _
  simp only [castDm_self]
  rw [e]
  rfl
noncomputable def laws_FnHistory.con (N : Nat) : Con := { modes := [.v, .v], ptrs := [false], fn := fun ds k => match ds with | [d0, d1] => castDm (.sl 5 (.int .u8)) .imm d0 fun x0 => castDm (.sl 5 (.int .u8)) .imm d1 fun x1 => bindO (laws_FnHistory N x0 x1) fun r => k [⟨.bool, .imm, r⟩] [] | _ => none }
noncomputable def laws_FnHistory.cfg (N : Nat) : Cfg := { ty := tys, keep := [21, 25, 29, 39, 40, 42, 46, 48, 64, 67, 70, 72, 80, 86, 94], flt := [], elm := [(22, (.own .imm)), (23, (.own (.own .imm))), (24, (.own .imm)), (25, (.pr (.own (.own .imm)) (.pr .imm (.pr (.own .imm) .imm)))), (26, (.pr (.own (.own .imm)) (.pr .imm (.pr (.own .imm) .imm)))), (37, (.pr (.pr (.own (.own .imm)) (.pr .imm (.pr (.own .imm) .imm))) (.pr (.own .imm) .imm))), (38, (.pr (.pr (.own (.own .imm)) (.pr .imm (.pr (.own .imm) .imm))) (.pr (.own .imm) .imm))), (54, (.pr (.own .imm) .imm)), (55, (.pr (.own .imm) .imm)), (58, (.own .imm))], live := [], ord := [(6, [4, 0, 1, 2, 3, 5]), (10, [5, 0, 1, 2, 3, 4, 6])], con := [((4, [.one]), spec_DrawHistAdd.con N), ((5, [.one]), spec_HistRight.con N), ((6, [.one]), spec_PointsRight.con N), ((8, [.one]), laws_lwCopy.con N), ((7, [.one, .one]), impl_HistAdd.con N), ((9, [.one]), impl_HistRight.con N), ((11, [.one]), impl_HistLast.con N), ((10, [.one, .one]), laws_lwSame.con N), ((13, [.one, .one, .one]), laws_lwAt.con N), ((12, [.one]), spec_PointsOf.con N), ((14, [.one, .one, .one]), impl_HistUp.con N), ((15, [.one, .one]), impl_HistDown.con N)], loops := [], joins := [] }
theorem laws_FnHistory.cons (N : Nat) : ConsOk Try.prog (laws_FnHistory.cfg N).con := (consOk_cons (hb4) (spec_DrawHistAdd.ok N) (spec_DrawHistAdd.det N) (consOk_cons (hb5) (spec_HistRight.ok N) (spec_HistRight.det N) (consOk_cons (hb6) (spec_PointsRight.ok N) (spec_PointsRight.det N) (consOk_cons (hb8) (laws_lwCopy.ok N) (laws_lwCopy.det N) (consOk_cons (hb7) (impl_HistAdd.ok N) (impl_HistAdd.det N) (consOk_cons (hb9) (impl_HistRight.ok N) (impl_HistRight.det N) (consOk_cons (hb11) (impl_HistLast.ok N) (impl_HistLast.det N) (consOk_cons (hb10) (laws_lwSame.ok N) (laws_lwSame.det N) (consOk_cons (hb13) (laws_lwAt.ok N) (laws_lwAt.det N) (consOk_cons (hb12) (spec_PointsOf.ok N) (spec_PointsOf.det N) (consOk_cons (hb14) (impl_HistUp.ok N) (impl_HistUp.det N) (consOk_cons (hb15) (impl_HistDown.ok N) (impl_HistDown.det N) consOk_nil))))))))))))
theorem laws_FnHistory.ls (N : Nat) : LoopsOk Try.prog (laws_FnHistory.cfg N) (fnBody Try.f3) := loopsL (l := []) (by kernel_rfl) trivial
theorem laws_FnHistory.b (N : Nat) (x0 : den (.sl 5 (.int .u8))) (x1 : den (.sl 5 (.int .u8))) : body (laws_FnHistory.cfg N) N Try.f3 [.one, .one] [.v, .v] [(false, .imm)] [⟨(.sl 5 (.int .u8)), .imm, x0⟩, ⟨(.sl 5 (.int .u8)), .imm, x1⟩] (fun r i => some (r, i)) = bindO (laws_FnHistory N x0 x1) fun r => some ([⟨.bool, .imm, r⟩], []) := by
  show _ = bindF _ _
  conv => rhs; simp only [laws_FnHistory, bindF_ifB, bindF_bindO, bindF_pure, bindF_none, bindF_onSum]
  kernel_rfl
theorem laws_FnHistory.ok (N : Nat) : ConOk Try.prog 3 [.one, .one] (laws_FnHistory.con N) := by
  refine conOk_mk (g := laws_FnHistory.cfg N) (N := N) (res := [(false, .imm)]) tys_ok (laws_FnHistory.cons N) mixed Try.func3 (laws_FnHistory.ls N) rfl rfl ?_
  intro ds R k y h
  cases ds with
  | nil => exact none_some h
  | cons d0 ds =>
  cases ds with
  | nil => exact none_some h
  | cons d1 ds =>
  cases ds with
  | cons _ _ => exact none_some h
  | nil =>
  have h0 : (castDm (.sl 5 (.int .u8)) .imm d0 fun x0 => castDm (.sl 5 (.int .u8)) .imm d1 fun x1 => bindO (laws_FnHistory N x0 x1) fun r => k [⟨.bool, .imm, r⟩] []) = some y := h
  clear h
  obtain ⟨x0, rfl, h1⟩ := castDm_eq h0
  obtain ⟨x1, rfl, h2⟩ := castDm_eq h1
  exact con_fin (laws_FnHistory.b N x0 x1) h2
theorem laws_FnHistory.det (N : Nat) : ConDet (laws_FnHistory.con N) := by
  intro ds R k y h
  cases ds with
  | nil => exact none_some h
  | cons d0 ds =>
  cases ds with
  | nil => exact none_some h
  | cons d1 ds =>
  cases ds with
  | cons _ _ => exact none_some h
  | nil =>
  have h0 : (castDm (.sl 5 (.int .u8)) .imm d0 fun x0 => castDm (.sl 5 (.int .u8)) .imm d1 fun x1 => bindO (laws_FnHistory N x0 x1) fun r => k [⟨.bool, .imm, r⟩] []) = some y := h
  clear h
  obtain ⟨x0, rfl, h1⟩ := castDm_eq h0
  obtain ⟨x1, rfl, h2⟩ := castDm_eq h1
  obtain ⟨r, e, h⟩ := bindO_some h2
  refine ⟨_, _, h, fun k' => ?_⟩
  show (castDm (.sl 5 (.int .u8)) .imm (⟨(.sl 5 (.int .u8)), .imm, x0⟩ : Dy) fun x0 => castDm (.sl 5 (.int .u8)) .imm (⟨(.sl 5 (.int .u8)), .imm, x1⟩ : Dy) fun x1 => bindO (laws_FnHistory N x0 x1) fun r => k' [⟨.bool, .imm, r⟩] []) = _
  simp only [castDm_self]
  rw [e]
  rfl
end Go.AE.F
