/- The printed functions are what the program comes to: contracts. -/
import Derived.Test.YthfahckdpdmhhaaXViMotionL2
namespace Go.AE.F
open Go.AE Go.Proofs
set_option maxRecDepth 100000
def slices_Index_Sint64_int64.sk2 : Skel := ⟨[.pv (.sl 2 (.int .i64)), .pv (.int .i64), .dead, .dead, .dead, .dead, .dead, .pv (.int .i64), .pv (.int .i64), .dead, .dead, .dead, .dead, .dead, .dead, .dead, .dead, .dead, .dead], []⟩
def slices_Index_Sint64_int64.xs2 : List XS := [⟨.exit 0, [], ⟨[.dead, .dead, .dead, .dead, .dead, .dead, .dead, .dead, .dead, .dead, .dead, .dead, .dead, .dead, .dead, .dead, .dead, .dead, .dead], []⟩⟩, ⟨.ret, [4], ⟨[.dead, .dead, .dead, .dead, .pv (.int .i64), .dead, .dead, .dead, .dead, .dead, .dead, .dead, .dead, .dead, .dead, .dead, .dead, .dead, .dead], []⟩⟩]
noncomputable def slices_Index_Sint64_int64.con (N : Nat) : Con := { modes := [.v, .v], ptrs := [false], fn := fun ds k => match ds with | [d0, d1] => castDm (.sl 2 (.int .i64)) .imm d0 fun x0 => castDm (.int .i64) .imm d1 fun x1 => bindO (slices_Index_Sint64_int64 N x0 x1) fun r => k [⟨(.int .i64), .imm, r⟩] [] | _ => none }
noncomputable def slices_Index_Sint64_int64.cfg (N : Nat) : Cfg := { ty := tys, keep := [], flt := [], elm := [(22, (.own .imm)), (23, (.pr (.own .imm) .imm)), (24, (.pr (.own .imm) .imm)), (27, (.pr (.own .imm) .imm))], live := [(2, [0, 1, 7, 8])], ord := [], con := [], loops := [(2, loopCon N slices_Index_Sint64_int64.sk2 slices_Index_Sint64_int64.xs2 (fun {R} => slices_Index_Sint64_int64.l2 (R := R) N))], joins := [] }
theorem slices_Index_Sint64_int64.cons (N : Nat) : ConsOk Try.prog (slices_Index_Sint64_int64.cfg N).con := consOk_nil
theorem slices_Index_Sint64_int64.h2 {R : Type} (N : Nat) (d : slices_Index_Sint64_int64.sk2.D) (kn : slices_Index_Sint64_int64.sk2.D → Option R) (kx : XD slices_Index_Sint64_int64.xs2 → Option R) : roundK (slices_Index_Sint64_int64.cfg N) N (nthLoop (fnBody Try.f46) 0) slices_Index_Sint64_int64.sk2 slices_Index_Sint64_int64.xs2 d kn kx = slices_Index_Sint64_int64.l2 N d kn kx := by kernel_rfl
theorem slices_Index_Sint64_int64.i2 (N : Nat) : LoopsOk Try.prog (slices_Index_Sint64_int64.cfg N) (nthLoop (fnBody Try.f46) 0) := loopsL (l := []) (by kernel_rfl) trivial
theorem slices_Index_Sint64_int64.o2 (N : Nat) : LoopOk Try.prog (nthLoop (fnBody Try.f46) 0) (loopCon N slices_Index_Sint64_int64.sk2 slices_Index_Sint64_int64.xs2 (fun {R} => slices_Index_Sint64_int64.l2 (R := R) N)) := loop_ok (g := slices_Index_Sint64_int64.cfg N) tys_ok (slices_Index_Sint64_int64.cons N) mixed (slices_Index_Sint64_int64.i2 N) (fun d kn kx => slices_Index_Sint64_int64.h2 N d kn kx)
theorem slices_Index_Sint64_int64.ls (N : Nat) : LoopsOk Try.prog (slices_Index_Sint64_int64.cfg N) (fnBody Try.f46) := loopsL (l := [nthLoop (fnBody Try.f46) 0]) (by kernel_rfl) ⟨loopOne (L0 := loopCon N slices_Index_Sint64_int64.sk2 slices_Index_Sint64_int64.xs2 (fun {R} => slices_Index_Sint64_int64.l2 (R := R) N)) (id := 2) (by kernel_rfl) (by kernel_rfl) (slices_Index_Sint64_int64.o2 N), trivial⟩
theorem slices_Index_Sint64_int64.q2 {R R' : Type} {N n : Nat} {d} {k} {g : R → Option R'} : bindF (loopP (slices_Index_Sint64_int64.l2 N) n d k) g = loopP (slices_Index_Sint64_int64.l2 N) n d fun e => bindF (k e) g := bindF_loopP (fun d kn kx => by simp only [slices_Index_Sint64_int64.l2, bindF_ifB, bindF_bindO, bindF_pure, bindF_none, bindF_onSum]) n d k
theorem slices_Index_Sint64_int64.b (N : Nat) (x0 : den (.sl 2 (.int .i64))) (x1 : den (.int .i64)) : body (slices_Index_Sint64_int64.cfg N) N Try.f46 [.one, .one] [.v, .v] [(false, .imm)] [⟨(.sl 2 (.int .i64)), .imm, x0⟩, ⟨(.int .i64), .imm, x1⟩] (fun r i => some (r, i)) = bindO (slices_Index_Sint64_int64 N x0 x1) fun r => some ([⟨(.int .i64), .imm, r⟩], []) := by
  show _ = bindF _ _
  conv => rhs; simp only [slices_Index_Sint64_int64, bindF_ifB, bindF_bindO, bindF_pure, bindF_none, bindF_onSum, slices_Index_Sint64_int64.q2]
  kernel_rfl
theorem slices_Index_Sint64_int64.ok (N : Nat) : ConOk Try.prog 46 [.one, .one] (slices_Index_Sint64_int64.con N) := by
  refine conOk_mk (g := slices_Index_Sint64_int64.cfg N) (N := N) (res := [(false, .imm)]) tys_ok (slices_Index_Sint64_int64.cons N) mixed Try.func46 (slices_Index_Sint64_int64.ls N) rfl rfl ?_
  intro ds R k y h
  cases ds with
  | nil => exact none_some h
  | cons d0 ds =>
  cases ds with
  | nil => exact none_some h
  | cons d1 ds =>
  cases ds with
  | cons _ _ => exact none_some h
  | nil =>
  have h0 : (castDm (.sl 2 (.int .i64)) .imm d0 fun x0 => castDm (.int .i64) .imm d1 fun x1 => bindO (slices_Index_Sint64_int64 N x0 x1) fun r => k [⟨(.int .i64), .imm, r⟩] []) = some y := h
  clear h
  obtain ⟨x0, rfl, h1⟩ := castDm_eq h0
  obtain ⟨x1, rfl, h2⟩ := castDm_eq h1
  exact con_fin (slices_Index_Sint64_int64.b N x0 x1) h2
theorem slices_Index_Sint64_int64.det (N : Nat) : ConDet (slices_Index_Sint64_int64.con N) := by
  intro ds R k y h
  cases ds with
  | nil => exact none_some h
  | cons d0 ds =>
  cases ds with
  | nil => exact none_some h
  | cons d1 ds =>
  cases ds with
  | cons _ _ => exact none_some h
  | nil =>
  have h0 : (castDm (.sl 2 (.int .i64)) .imm d0 fun x0 => castDm (.int .i64) .imm d1 fun x1 => bindO (slices_Index_Sint64_int64 N x0 x1) fun r => k [⟨(.int .i64), .imm, r⟩] []) = some y := h
  clear h
  obtain ⟨x0, rfl, h1⟩ := castDm_eq h0
  obtain ⟨x1, rfl, h2⟩ := castDm_eq h1
  obtain ⟨r, e, h⟩ := bindO_some h2
  refine ⟨_, _, h, fun k' => ?_⟩
  show (castDm (.sl 2 (.int .i64)) .imm (⟨(.sl 2 (.int .i64)), .imm, x0⟩ : Dy) fun x0 => castDm (.int .i64) .imm (⟨(.int .i64), .imm, x1⟩ : Dy) fun x1 => bindO (slices_Index_Sint64_int64 N x0 x1) fun r => k' [⟨(.int .i64), .imm, r⟩] []) = _
  simp only [castDm_self]
  rw [e]
  rfl
noncomputable def impl_Buf_spot.con (N : Nat) : Con := { modes := [.rd, .v], ptrs := [false], fn := fun ds k => match ds with | [d0, d1] => castDm (.pair (.sl 2 (.int .i64)) (.pair (.int .i64) (.pair (.int .i64) .unit))) .imm d0 fun x0 => castDm (.int .i64) .imm d1 fun x1 => bindO (impl_Buf_spot N x0 x1) fun r => k [⟨(.pair (.int .i64) (.pair (.int .i64) .unit)), .imm, r⟩] [] | _ => none }
noncomputable def impl_Buf_spot.cfg (N : Nat) : Cfg := { ty := tys, keep := [8, 10, 12], flt := [], elm := [(22, (.own .imm)), (23, (.pr (.own .imm) .imm)), (24, (.pr (.own .imm) .imm)), (27, (.pr (.own .imm) .imm))], live := [], ord := [], con := [((40, [.one, .one]), impl_Buf_start.con N), ((47, [.one]), impl_Buf_lines.con N), ((46, [.one, .one]), slices_Index_Sint64_int64.con N)], loops := [], joins := [] }
theorem impl_Buf_spot.cons (N : Nat) : ConsOk Try.prog (impl_Buf_spot.cfg N).con := (consOk_cons (hb40) (impl_Buf_start.ok N) (impl_Buf_start.det N) (consOk_cons (hb47) (impl_Buf_lines.ok N) (impl_Buf_lines.det N) (consOk_cons (hb46) (slices_Index_Sint64_int64.ok N) (slices_Index_Sint64_int64.det N) consOk_nil)))
theorem impl_Buf_spot.ls (N : Nat) : LoopsOk Try.prog (impl_Buf_spot.cfg N) (fnBody Try.f42) := loopsL (l := []) (by kernel_rfl) trivial
theorem impl_Buf_spot.b (N : Nat) (x0 : den (.pair (.sl 2 (.int .i64)) (.pair (.int .i64) (.pair (.int .i64) .unit)))) (x1 : den (.int .i64)) : body (impl_Buf_spot.cfg N) N Try.f42 [.one, .one] [.rd, .v] [(false, .imm)] [⟨(.pair (.sl 2 (.int .i64)) (.pair (.int .i64) (.pair (.int .i64) .unit))), .imm, x0⟩, ⟨(.int .i64), .imm, x1⟩] (fun r i => some (r, i)) = bindO (impl_Buf_spot N x0 x1) fun r => some ([⟨(.pair (.int .i64) (.pair (.int .i64) .unit)), .imm, r⟩], []) := by
  show _ = bindF _ _
  conv => rhs; simp only [impl_Buf_spot, bindF_ifB, bindF_bindO, bindF_pure, bindF_none, bindF_onSum]
  kernel_rfl
theorem impl_Buf_spot.ok (N : Nat) : ConOk Try.prog 42 [.one, .one] (impl_Buf_spot.con N) := by
  refine conOk_mk (g := impl_Buf_spot.cfg N) (N := N) (res := [(false, .imm)]) tys_ok (impl_Buf_spot.cons N) mixed Try.func42 (impl_Buf_spot.ls N) rfl rfl ?_
  intro ds R k y h
  cases ds with
  | nil => exact none_some h
  | cons d0 ds =>
  cases ds with
  | nil => exact none_some h
  | cons d1 ds =>
  cases ds with
  | cons _ _ => exact none_some h
  | nil =>
  have h0 : (castDm (.pair (.sl 2 (.int .i64)) (.pair (.int .i64) (.pair (.int .i64) .unit))) .imm d0 fun x0 => castDm (.int .i64) .imm d1 fun x1 => bindO (impl_Buf_spot N x0 x1) fun r => k [⟨(.pair (.int .i64) (.pair (.int .i64) .unit)), .imm, r⟩] []) = some y := h
  clear h
  obtain ⟨x0, rfl, h1⟩ := castDm_eq h0
  obtain ⟨x1, rfl, h2⟩ := castDm_eq h1
  exact con_fin (impl_Buf_spot.b N x0 x1) h2
theorem impl_Buf_spot.det (N : Nat) : ConDet (impl_Buf_spot.con N) := by
  intro ds R k y h
  cases ds with
  | nil => exact none_some h
  | cons d0 ds =>
  cases ds with
  | nil => exact none_some h
  | cons d1 ds =>
  cases ds with
  | cons _ _ => exact none_some h
  | nil =>
  have h0 : (castDm (.pair (.sl 2 (.int .i64)) (.pair (.int .i64) (.pair (.int .i64) .unit))) .imm d0 fun x0 => castDm (.int .i64) .imm d1 fun x1 => bindO (impl_Buf_spot N x0 x1) fun r => k [⟨(.pair (.int .i64) (.pair (.int .i64) .unit)), .imm, r⟩] []) = some y := h
  clear h
  obtain ⟨x0, rfl, h1⟩ := castDm_eq h0
  obtain ⟨x1, rfl, h2⟩ := castDm_eq h1
  obtain ⟨r, e, h⟩ := bindO_some h2
  refine ⟨_, _, h, fun k' => ?_⟩
  show (castDm (.pair (.sl 2 (.int .i64)) (.pair (.int .i64) (.pair (.int .i64) .unit))) .imm (⟨(.pair (.sl 2 (.int .i64)) (.pair (.int .i64) (.pair (.int .i64) .unit))), .imm, x0⟩ : Dy) fun x0 => castDm (.int .i64) .imm (⟨(.int .i64), .imm, x1⟩ : Dy) fun x1 => bindO (impl_Buf_spot N x0 x1) fun r => k' [⟨(.pair (.int .i64) (.pair (.int .i64) .unit)), .imm, r⟩] []) = _
  simp only [castDm_self]
  rw [e]
  rfl
noncomputable def impl_Buf_place.con (N : Nat) : Con := { modes := [.rd, .v], ptrs := [false], fn := fun ds k => match ds with | [d0, d1] => castDm (.pair (.sl 2 (.int .i64)) (.pair (.int .i64) (.pair (.int .i64) .unit))) .imm d0 fun x0 => castDm (.pair (.int .i64) (.pair (.int .i64) .unit)) .imm d1 fun x1 => bindO (impl_Buf_place N x0 x1) fun r => k [⟨(.int .i64), .imm, r⟩] [] | _ => none }
noncomputable def impl_Buf_place.cfg (N : Nat) : Cfg := { ty := tys, keep := [8, 14, 25], flt := [], elm := [(22, (.own .imm)), (23, (.pr (.own .imm) .imm)), (24, (.pr (.own .imm) .imm)), (27, (.pr (.own .imm) .imm))], live := [], ord := [(2, [0, 1, 2, 4, 3, 5, 6, 7, 8, 9, 10]), (3, [0, 1, 2, 4, 5, 7, 3, 6, 8, 9, 10, 11])], con := [((47, [.one]), impl_Buf_lines.con N), ((37, [.one]), impl_size_Sint64.con N), ((41, [.one, .one]), impl_Buf_end.con N)], loops := [], joins := [] }
theorem impl_Buf_place.cons (N : Nat) : ConsOk Try.prog (impl_Buf_place.cfg N).con := (consOk_cons (hb47) (impl_Buf_lines.ok N) (impl_Buf_lines.det N) (consOk_cons (hb37) (impl_size_Sint64.ok N) (impl_size_Sint64.det N) (consOk_cons (hb41) (impl_Buf_end.ok N) (impl_Buf_end.det N) consOk_nil)))
theorem impl_Buf_place.ls (N : Nat) : LoopsOk Try.prog (impl_Buf_place.cfg N) (fnBody Try.f43) := loopsL (l := []) (by kernel_rfl) trivial
theorem impl_Buf_place.b (N : Nat) (x0 : den (.pair (.sl 2 (.int .i64)) (.pair (.int .i64) (.pair (.int .i64) .unit)))) (x1 : den (.pair (.int .i64) (.pair (.int .i64) .unit))) : body (impl_Buf_place.cfg N) N Try.f43 [.one, .one] [.rd, .v] [(false, .imm)] [⟨(.pair (.sl 2 (.int .i64)) (.pair (.int .i64) (.pair (.int .i64) .unit))), .imm, x0⟩, ⟨(.pair (.int .i64) (.pair (.int .i64) .unit)), .imm, x1⟩] (fun r i => some (r, i)) = bindO (impl_Buf_place N x0 x1) fun r => some ([⟨(.int .i64), .imm, r⟩], []) := by
  show _ = bindF _ _
  conv => rhs; simp only [impl_Buf_place, bindF_ifB, bindF_bindO, bindF_pure, bindF_none, bindF_onSum]
  kernel_rfl
theorem impl_Buf_place.ok (N : Nat) : ConOk Try.prog 43 [.one, .one] (impl_Buf_place.con N) := by
  refine conOk_mk (g := impl_Buf_place.cfg N) (N := N) (res := [(false, .imm)]) tys_ok (impl_Buf_place.cons N) mixed Try.func43 (impl_Buf_place.ls N) rfl rfl ?_
  intro ds R k y h
  cases ds with
  | nil => exact none_some h
  | cons d0 ds =>
  cases ds with
  | nil => exact none_some h
  | cons d1 ds =>
  cases ds with
  | cons _ _ => exact none_some h
  | nil =>
  have h0 : (castDm (.pair (.sl 2 (.int .i64)) (.pair (.int .i64) (.pair (.int .i64) .unit))) .imm d0 fun x0 => castDm (.pair (.int .i64) (.pair (.int .i64) .unit)) .imm d1 fun x1 => bindO (impl_Buf_place N x0 x1) fun r => k [⟨(.int .i64), .imm, r⟩] []) = some y := h
  clear h
  obtain ⟨x0, rfl, h1⟩ := castDm_eq h0
  obtain ⟨x1, rfl, h2⟩ := castDm_eq h1
  exact con_fin (impl_Buf_place.b N x0 x1) h2
theorem impl_Buf_place.det (N : Nat) : ConDet (impl_Buf_place.con N) := by
  intro ds R k y h
  cases ds with
  | nil => exact none_some h
  | cons d0 ds =>
  cases ds with
  | nil => exact none_some h
  | cons d1 ds =>
  cases ds with
  | cons _ _ => exact none_some h
  | nil =>
  have h0 : (castDm (.pair (.sl 2 (.int .i64)) (.pair (.int .i64) (.pair (.int .i64) .unit))) .imm d0 fun x0 => castDm (.pair (.int .i64) (.pair (.int .i64) .unit)) .imm d1 fun x1 => bindO (impl_Buf_place N x0 x1) fun r => k [⟨(.int .i64), .imm, r⟩] []) = some y := h
  clear h
  obtain ⟨x0, rfl, h1⟩ := castDm_eq h0
  obtain ⟨x1, rfl, h2⟩ := castDm_eq h1
  obtain ⟨r, e, h⟩ := bindO_some h2
  refine ⟨_, _, h, fun k' => ?_⟩
  show (castDm (.pair (.sl 2 (.int .i64)) (.pair (.int .i64) (.pair (.int .i64) .unit))) .imm (⟨(.pair (.sl 2 (.int .i64)) (.pair (.int .i64) (.pair (.int .i64) .unit))), .imm, x0⟩ : Dy) fun x0 => castDm (.pair (.int .i64) (.pair (.int .i64) .unit)) .imm (⟨(.pair (.int .i64) (.pair (.int .i64) .unit)), .imm, x1⟩ : Dy) fun x1 => bindO (impl_Buf_place N x0 x1) fun r => k' [⟨(.int .i64), .imm, r⟩] []) = _
  simp only [castDm_self]
  rw [e]
  rfl
def impl_Buf_step.sk26 : Skel := ⟨[.rp (.pair (.sl 2 (.int .i64)) (.pair (.int .i64) (.pair (.int .i64) .unit))), .pv (.int .i64), .dead, .pv (.int .i64), .dead, .dead, .dead, .dead, .dead, .pv (.int .i64), .dead, .pv (.int .i64), .dead, .dead, .dead, .dead, .dead, .dead, .dead, .dead, .dead, .dead, .dead, .dead, .dead, .dead, .dead, .dead, .dead, .dead, .dead, .dead, .dead, .dead, .dead, .dead, .dead, .dead, .dead, .dead, .dead, .dead, .dead, .dead, .dead, .dead, .dead, .dead, .dead, .dead, .dead, .dead, .dead, .dead, .dead, .dead, .dead, .dead, .dead, .dead, .dead, .dead, .dead, .dead, .dead, .dead, .dead, .dead, .dead, .dead, .dead, .dead, .dead, .dead, .dead, .dead, .dead, .dead, .dead, .dead, .dead, .dead, .dead, .dead, .dead, .dead, .dead, .dead, .dead, .dead, .dead, .dead, .dead, .dead, .dead, .dead, .dead], []⟩
def impl_Buf_step.xs26 : List XS := [⟨.exit 1, [1], ⟨[.dead, .pv (.int .i64), .dead, .dead, .dead, .dead, .dead, .dead, .dead, .dead, .dead, .dead, .dead, .dead, .dead, .dead, .dead, .dead, .dead, .dead, .dead, .dead, .dead, .dead, .dead, .dead, .dead, .dead, .dead, .dead, .dead, .dead, .dead, .dead, .dead, .dead, .dead, .dead, .dead, .dead, .dead, .dead, .dead, .dead, .dead, .dead, .dead, .dead, .dead, .dead, .dead, .dead, .dead, .dead, .dead, .dead, .dead, .dead, .dead, .dead, .dead, .dead, .dead, .dead, .dead, .dead, .dead, .dead, .dead, .dead, .dead, .dead, .dead, .dead, .dead, .dead, .dead, .dead, .dead, .dead, .dead, .dead, .dead, .dead, .dead, .dead, .dead, .dead, .dead, .dead, .dead, .dead, .dead, .dead, .dead, .dead, .dead], []⟩⟩, ⟨.ret, [8], ⟨[.dead, .dead, .dead, .dead, .dead, .dead, .dead, .dead, .pv (.int .i64), .dead, .dead, .dead, .dead, .dead, .dead, .dead, .dead, .dead, .dead, .dead, .dead, .dead, .dead, .dead, .dead, .dead, .dead, .dead, .dead, .dead, .dead, .dead, .dead, .dead, .dead, .dead, .dead, .dead, .dead, .dead, .dead, .dead, .dead, .dead, .dead, .dead, .dead, .dead, .dead, .dead, .dead, .dead, .dead, .dead, .dead, .dead, .dead, .dead, .dead, .dead, .dead, .dead, .dead, .dead, .dead, .dead, .dead, .dead, .dead, .dead, .dead, .dead, .dead, .dead, .dead, .dead, .dead, .dead, .dead, .dead, .dead, .dead, .dead, .dead, .dead, .dead, .dead, .dead, .dead, .dead, .dead, .dead, .dead, .dead, .dead, .dead, .dead], []⟩⟩]
noncomputable def impl_Buf_step.con (N : Nat) : Con := { modes := [.rd, .v, .v, .v], ptrs := [false], fn := fun ds k => match ds with | [d0, d1, d2, d3] => castDm (.pair (.sl 2 (.int .i64)) (.pair (.int .i64) (.pair (.int .i64) .unit))) .imm d0 fun x0 => castDm (.int .i64) .imm d1 fun x1 => castDm (.int .i64) .imm d2 fun x2 => castDm (.int .i64) .imm d3 fun x3 => bindO (impl_Buf_step N x0 x1 x2 x3) fun r => k [⟨(.int .i64), .imm, r⟩] [] | _ => none }
noncomputable def impl_Buf_step.cfg (N : Nat) : Cfg := { ty := tys, keep := [16, 33, 38, 43, 48, 54, 62, 73], flt := [], elm := [(22, (.own .imm)), (23, (.pr (.own .imm) .imm)), (24, (.pr (.own .imm) .imm)), (27, (.pr (.own .imm) .imm))], live := [(26, [0, 1, 3, 9, 11])], ord := [(17, [13, 0, 1, 5, 6, 7, 8, 9, 2, 3, 4, 10, 11, 12, 14])], con := [((37, [.one]), impl_size_Sint64.con N), ((38, [.one, .one]), impl_Buf_wordBack.con N), ((39, [.one, .one]), impl_Buf_wordNext.con N), ((40, [.one, .one]), impl_Buf_start.con N), ((41, [.one, .one]), impl_Buf_end.con N), ((42, [.one, .one]), impl_Buf_spot.con N), ((43, [.one, .one]), impl_Buf_place.con N)], loops := [(26, loopCon N impl_Buf_step.sk26 impl_Buf_step.xs26 (fun {R} => impl_Buf_step.l26 (R := R) N))], joins := [] }
theorem impl_Buf_step.cons (N : Nat) : ConsOk Try.prog (impl_Buf_step.cfg N).con := (consOk_cons (hb37) (impl_size_Sint64.ok N) (impl_size_Sint64.det N) (consOk_cons (hb38) (impl_Buf_wordBack.ok N) (impl_Buf_wordBack.det N) (consOk_cons (hb39) (impl_Buf_wordNext.ok N) (impl_Buf_wordNext.det N) (consOk_cons (hb40) (impl_Buf_start.ok N) (impl_Buf_start.det N) (consOk_cons (hb41) (impl_Buf_end.ok N) (impl_Buf_end.det N) (consOk_cons (hb42) (impl_Buf_spot.ok N) (impl_Buf_spot.det N) (consOk_cons (hb43) (impl_Buf_place.ok N) (impl_Buf_place.det N) consOk_nil)))))))
theorem impl_Buf_step.h26 {R : Type} (N : Nat) (d : impl_Buf_step.sk26.D) (kn : impl_Buf_step.sk26.D → Option R) (kx : XD impl_Buf_step.xs26 → Option R) : roundK (impl_Buf_step.cfg N) N (nthLoop (fnBody Try.f32) 0) impl_Buf_step.sk26 impl_Buf_step.xs26 d kn kx = impl_Buf_step.l26 N d kn kx := by kernel_rfl
theorem impl_Buf_step.i26 (N : Nat) : LoopsOk Try.prog (impl_Buf_step.cfg N) (nthLoop (fnBody Try.f32) 0) := loopsL (l := []) (by kernel_rfl) trivial
theorem impl_Buf_step.o26 (N : Nat) : LoopOk Try.prog (nthLoop (fnBody Try.f32) 0) (loopCon N impl_Buf_step.sk26 impl_Buf_step.xs26 (fun {R} => impl_Buf_step.l26 (R := R) N)) := loop_ok (g := impl_Buf_step.cfg N) tys_ok (impl_Buf_step.cons N) mixed (impl_Buf_step.i26 N) (fun d kn kx => impl_Buf_step.h26 N d kn kx)
theorem impl_Buf_step.ls (N : Nat) : LoopsOk Try.prog (impl_Buf_step.cfg N) (fnBody Try.f32) := loopsL (l := [nthLoop (fnBody Try.f32) 0]) (by kernel_rfl) ⟨loopOne (L0 := loopCon N impl_Buf_step.sk26 impl_Buf_step.xs26 (fun {R} => impl_Buf_step.l26 (R := R) N)) (id := 26) (by kernel_rfl) (by kernel_rfl) (impl_Buf_step.o26 N), trivial⟩
theorem impl_Buf_step.q26 {R R' : Type} {N n : Nat} {d} {k} {g : R → Option R'} : bindF (loopP (impl_Buf_step.l26 N) n d k) g = loopP (impl_Buf_step.l26 N) n d fun e => bindF (k e) g := bindF_loopP (fun d kn kx => by simp only [impl_Buf_step.l26, bindF_ifB, bindF_bindO, bindF_pure, bindF_none, bindF_onSum]) n d k
theorem impl_Buf_step.b (N : Nat) (x0 : den (.pair (.sl 2 (.int .i64)) (.pair (.int .i64) (.pair (.int .i64) .unit)))) (x1 : den (.int .i64)) (x2 : den (.int .i64)) (x3 : den (.int .i64)) : body (impl_Buf_step.cfg N) N Try.f32 [.one, .one, .one, .one] [.rd, .v, .v, .v] [(false, .imm)] [⟨(.pair (.sl 2 (.int .i64)) (.pair (.int .i64) (.pair (.int .i64) .unit))), .imm, x0⟩, ⟨(.int .i64), .imm, x1⟩, ⟨(.int .i64), .imm, x2⟩, ⟨(.int .i64), .imm, x3⟩] (fun r i => some (r, i)) = bindO (impl_Buf_step N x0 x1 x2 x3) fun r => some ([⟨(.int .i64), .imm, r⟩], []) := by
  show _ = bindF _ _
  conv => rhs; simp only [impl_Buf_step, bindF_ifB, bindF_bindO, bindF_pure, bindF_none, bindF_onSum, impl_Buf_step.q26]
  kernel_rfl
theorem impl_Buf_step.ok (N : Nat) : ConOk Try.prog 32 [.one, .one, .one, .one] (impl_Buf_step.con N) := by
  refine conOk_mk (g := impl_Buf_step.cfg N) (N := N) (res := [(false, .imm)]) tys_ok (impl_Buf_step.cons N) mixed Try.func32 (impl_Buf_step.ls N) rfl rfl ?_
  intro ds R k y h
  cases ds with
  | nil => exact none_some h
  | cons d0 ds =>
  cases ds with
  | nil => exact none_some h
  | cons d1 ds =>
  cases ds with
  | nil => exact none_some h
  | cons d2 ds =>
  cases ds with
  | nil => exact none_some h
  | cons d3 ds =>
  cases ds with
  | cons _ _ => exact none_some h
  | nil =>
  have h0 : (castDm (.pair (.sl 2 (.int .i64)) (.pair (.int .i64) (.pair (.int .i64) .unit))) .imm d0 fun x0 => castDm (.int .i64) .imm d1 fun x1 => castDm (.int .i64) .imm d2 fun x2 => castDm (.int .i64) .imm d3 fun x3 => bindO (impl_Buf_step N x0 x1 x2 x3) fun r => k [⟨(.int .i64), .imm, r⟩] []) = some y := h
  clear h
  obtain ⟨x0, rfl, h1⟩ := castDm_eq h0
  obtain ⟨x1, rfl, h2⟩ := castDm_eq h1
  obtain ⟨x2, rfl, h3⟩ := castDm_eq h2
  obtain ⟨x3, rfl, h4⟩ := castDm_eq h3
  exact con_fin (impl_Buf_step.b N x0 x1 x2 x3) h4
theorem impl_Buf_step.det (N : Nat) : ConDet (impl_Buf_step.con N) := by
  intro ds R k y h
  cases ds with
  | nil => exact none_some h
  | cons d0 ds =>
  cases ds with
  | nil => exact none_some h
  | cons d1 ds =>
  cases ds with
  | nil => exact none_some h
  | cons d2 ds =>
  cases ds with
  | nil => exact none_some h
  | cons d3 ds =>
  cases ds with
  | cons _ _ => exact none_some h
  | nil =>
  have h0 : (castDm (.pair (.sl 2 (.int .i64)) (.pair (.int .i64) (.pair (.int .i64) .unit))) .imm d0 fun x0 => castDm (.int .i64) .imm d1 fun x1 => castDm (.int .i64) .imm d2 fun x2 => castDm (.int .i64) .imm d3 fun x3 => bindO (impl_Buf_step N x0 x1 x2 x3) fun r => k [⟨(.int .i64), .imm, r⟩] []) = some y := h
  clear h
  obtain ⟨x0, rfl, h1⟩ := castDm_eq h0
  obtain ⟨x1, rfl, h2⟩ := castDm_eq h1
  obtain ⟨x2, rfl, h3⟩ := castDm_eq h2
  obtain ⟨x3, rfl, h4⟩ := castDm_eq h3
  obtain ⟨r, e, h⟩ := bindO_some h4
  refine ⟨_, _, h, fun k' => ?_⟩
  show (castDm (.pair (.sl 2 (.int .i64)) (.pair (.int .i64) (.pair (.int .i64) .unit))) .imm (⟨(.pair (.sl 2 (.int .i64)) (.pair (.int .i64) (.pair (.int .i64) .unit))), .imm, x0⟩ : Dy) fun x0 => castDm (.int .i64) .imm (⟨(.int .i64), .imm, x1⟩ : Dy) fun x1 => castDm (.int .i64) .imm (⟨(.int .i64), .imm, x2⟩ : Dy) fun x2 => castDm (.int .i64) .imm (⟨(.int .i64), .imm, x3⟩ : Dy) fun x3 => bindO (impl_Buf_step N x0 x1 x2 x3) fun r => k' [⟨(.int .i64), .imm, r⟩] []) = _
  simp only [castDm_self]
  rw [e]
  rfl
def impl_Buf_motion.sk3 : Skel := ⟨[.rp (.pair (.sl 2 (.int .i64)) (.pair (.int .i64) (.pair (.int .i64) .unit))), .pv (.int .i64), .dead, .pv (.int .i64), .dead, .dead, .dead, .dead, .dead, .pv (.int .i64), .dead, .dead, .dead, .dead, .dead, .pv (.int .i64), .pv (.int .i64), .dead, .dead, .dead, .dead, .dead, .dead, .dead, .dead, .dead, .dead, .dead, .dead], []⟩
def impl_Buf_motion.xs3 : List XS := [⟨.exit 0, [9], ⟨[.dead, .dead, .dead, .dead, .dead, .dead, .dead, .dead, .dead, .pv (.int .i64), .dead, .dead, .dead, .dead, .dead, .dead, .dead, .dead, .dead, .dead, .dead, .dead, .dead, .dead, .dead, .dead, .dead, .dead, .dead], []⟩⟩]
noncomputable def impl_Buf_motion.con (N : Nat) : Con := { modes := [.rd, .v, .v, .v], ptrs := [false], fn := fun ds k => match ds with | [d0, d1, d2, d3] => castDm (.pair (.sl 2 (.int .i64)) (.pair (.int .i64) (.pair (.int .i64) .unit))) .imm d0 fun x0 => castDm (.int .i64) .imm d1 fun x1 => castDm (.int .i64) .imm d2 fun x2 => castDm (.int .i64) .imm d3 fun x3 => bindO (impl_Buf_motion N x0 x1 x2 x3) fun r => k [⟨(.int .i64), .imm, r⟩] [] | _ => none }
noncomputable def impl_Buf_motion.cfg (N : Nat) : Cfg := { ty := tys, keep := [22], flt := [], elm := [(22, (.own .imm)), (23, (.pr (.own .imm) .imm)), (24, (.pr (.own .imm) .imm)), (27, (.pr (.own .imm) .imm))], live := [(3, [0, 1, 3, 9, 15, 16])], ord := [], con := [((32, [.one, .one, .one, .one]), impl_Buf_step.con N)], loops := [(3, loopCon N impl_Buf_motion.sk3 impl_Buf_motion.xs3 (fun {R} => impl_Buf_motion.l3 (R := R) N))], joins := [] }
theorem impl_Buf_motion.cons (N : Nat) : ConsOk Try.prog (impl_Buf_motion.cfg N).con := (consOk_cons (hb32) (impl_Buf_step.ok N) (impl_Buf_step.det N) consOk_nil)
theorem impl_Buf_motion.h3 {R : Type} (N : Nat) (d : impl_Buf_motion.sk3.D) (kn : impl_Buf_motion.sk3.D → Option R) (kx : XD impl_Buf_motion.xs3 → Option R) : roundK (impl_Buf_motion.cfg N) N (nthLoop (fnBody Try.f22) 0) impl_Buf_motion.sk3 impl_Buf_motion.xs3 d kn kx = impl_Buf_motion.l3 N d kn kx := by kernel_rfl
theorem impl_Buf_motion.i3 (N : Nat) : LoopsOk Try.prog (impl_Buf_motion.cfg N) (nthLoop (fnBody Try.f22) 0) := loopsL (l := []) (by kernel_rfl) trivial
theorem impl_Buf_motion.o3 (N : Nat) : LoopOk Try.prog (nthLoop (fnBody Try.f22) 0) (loopCon N impl_Buf_motion.sk3 impl_Buf_motion.xs3 (fun {R} => impl_Buf_motion.l3 (R := R) N)) := loop_ok (g := impl_Buf_motion.cfg N) tys_ok (impl_Buf_motion.cons N) mixed (impl_Buf_motion.i3 N) (fun d kn kx => impl_Buf_motion.h3 N d kn kx)
theorem impl_Buf_motion.ls (N : Nat) : LoopsOk Try.prog (impl_Buf_motion.cfg N) (fnBody Try.f22) := loopsL (l := [nthLoop (fnBody Try.f22) 0]) (by kernel_rfl) ⟨loopOne (L0 := loopCon N impl_Buf_motion.sk3 impl_Buf_motion.xs3 (fun {R} => impl_Buf_motion.l3 (R := R) N)) (id := 3) (by kernel_rfl) (by kernel_rfl) (impl_Buf_motion.o3 N), trivial⟩
theorem impl_Buf_motion.q3 {R R' : Type} {N n : Nat} {d} {k} {g : R → Option R'} : bindF (loopP (impl_Buf_motion.l3 N) n d k) g = loopP (impl_Buf_motion.l3 N) n d fun e => bindF (k e) g := bindF_loopP (fun d kn kx => by simp only [impl_Buf_motion.l3, bindF_ifB, bindF_bindO, bindF_pure, bindF_none, bindF_onSum]) n d k
theorem impl_Buf_motion.b (N : Nat) (x0 : den (.pair (.sl 2 (.int .i64)) (.pair (.int .i64) (.pair (.int .i64) .unit)))) (x1 : den (.int .i64)) (x2 : den (.int .i64)) (x3 : den (.int .i64)) : body (impl_Buf_motion.cfg N) N Try.f22 [.one, .one, .one, .one] [.rd, .v, .v, .v] [(false, .imm)] [⟨(.pair (.sl 2 (.int .i64)) (.pair (.int .i64) (.pair (.int .i64) .unit))), .imm, x0⟩, ⟨(.int .i64), .imm, x1⟩, ⟨(.int .i64), .imm, x2⟩, ⟨(.int .i64), .imm, x3⟩] (fun r i => some (r, i)) = bindO (impl_Buf_motion N x0 x1 x2 x3) fun r => some ([⟨(.int .i64), .imm, r⟩], []) := by
  show _ = bindF _ _
  conv => rhs; simp only [impl_Buf_motion, bindF_ifB, bindF_bindO, bindF_pure, bindF_none, bindF_onSum, impl_Buf_motion.q3]
  kernel_rfl
theorem impl_Buf_motion.ok (N : Nat) : ConOk Try.prog 22 [.one, .one, .one, .one] (impl_Buf_motion.con N) := by
  refine conOk_mk (g := impl_Buf_motion.cfg N) (N := N) (res := [(false, .imm)]) tys_ok (impl_Buf_motion.cons N) mixed Try.func22 (impl_Buf_motion.ls N) rfl rfl ?_
  intro ds R k y h
  cases ds with
  | nil => exact none_some h
  | cons d0 ds =>
  cases ds with
  | nil => exact none_some h
  | cons d1 ds =>
  cases ds with
  | nil => exact none_some h
  | cons d2 ds =>
  cases ds with
  | nil => exact none_some h
  | cons d3 ds =>
  cases ds with
  | cons _ _ => exact none_some h
  | nil =>
  have h0 : (castDm (.pair (.sl 2 (.int .i64)) (.pair (.int .i64) (.pair (.int .i64) .unit))) .imm d0 fun x0 => castDm (.int .i64) .imm d1 fun x1 => castDm (.int .i64) .imm d2 fun x2 => castDm (.int .i64) .imm d3 fun x3 => bindO (impl_Buf_motion N x0 x1 x2 x3) fun r => k [⟨(.int .i64), .imm, r⟩] []) = some y := h
  clear h
  obtain ⟨x0, rfl, h1⟩ := castDm_eq h0
  obtain ⟨x1, rfl, h2⟩ := castDm_eq h1
  obtain ⟨x2, rfl, h3⟩ := castDm_eq h2
  obtain ⟨x3, rfl, h4⟩ := castDm_eq h3
  exact con_fin (impl_Buf_motion.b N x0 x1 x2 x3) h4
theorem impl_Buf_motion.det (N : Nat) : ConDet (impl_Buf_motion.con N) := by
  intro ds R k y h
  cases ds with
  | nil => exact none_some h
  | cons d0 ds =>
  cases ds with
  | nil => exact none_some h
  | cons d1 ds =>
  cases ds with
  | nil => exact none_some h
  | cons d2 ds =>
  cases ds with
  | nil => exact none_some h
  | cons d3 ds =>
  cases ds with
  | cons _ _ => exact none_some h
  | nil =>
  have h0 : (castDm (.pair (.sl 2 (.int .i64)) (.pair (.int .i64) (.pair (.int .i64) .unit))) .imm d0 fun x0 => castDm (.int .i64) .imm d1 fun x1 => castDm (.int .i64) .imm d2 fun x2 => castDm (.int .i64) .imm d3 fun x3 => bindO (impl_Buf_motion N x0 x1 x2 x3) fun r => k [⟨(.int .i64), .imm, r⟩] []) = some y := h
  clear h
  obtain ⟨x0, rfl, h1⟩ := castDm_eq h0
  obtain ⟨x1, rfl, h2⟩ := castDm_eq h1
  obtain ⟨x2, rfl, h3⟩ := castDm_eq h2
  obtain ⟨x3, rfl, h4⟩ := castDm_eq h3
  obtain ⟨r, e, h⟩ := bindO_some h4
  refine ⟨_, _, h, fun k' => ?_⟩
  show (castDm (.pair (.sl 2 (.int .i64)) (.pair (.int .i64) (.pair (.int .i64) .unit))) .imm (⟨(.pair (.sl 2 (.int .i64)) (.pair (.int .i64) (.pair (.int .i64) .unit))), .imm, x0⟩ : Dy) fun x0 => castDm (.int .i64) .imm (⟨(.int .i64), .imm, x1⟩ : Dy) fun x1 => castDm (.int .i64) .imm (⟨(.int .i64), .imm, x2⟩ : Dy) fun x2 => castDm (.int .i64) .imm (⟨(.int .i64), .imm, x3⟩ : Dy) fun x3 => bindO (impl_Buf_motion N x0 x1 x2 x3) fun r => k' [⟨(.int .i64), .imm, r⟩] []) = _
  simp only [castDm_self]
  rw [e]
  rfl
noncomputable def impl_Motion.con (N : Nat) : Con := { modes := [.v, .v, .v, .v], ptrs := [false], fn := fun ds k => match ds with | [d0, d1, d2, d3] => castDm (.pair (.sl 2 (.int .i64)) (.pair (.int .i64) (.pair (.int .i64) .unit))) .imm d0 fun x0 => castDm (.int .i64) .imm d1 fun x1 => castDm (.int .i64) .imm d2 fun x2 => castDm (.int .i64) .imm d3 fun x3 => bindO (impl_Motion N x0 x1 x2 x3) fun r => k [⟨(.int .i64), .imm, r⟩] [] | _ => none }
noncomputable def impl_Motion.cfg (N : Nat) : Cfg := { ty := tys, keep := [10, 14, 19, 25], flt := [], elm := [(22, (.own .imm)), (23, (.pr (.own .imm) .imm)), (24, (.pr (.own .imm) .imm)), (27, (.pr (.own .imm) .imm))], live := [], ord := [], con := [((20, [.one]), impl_BufRight.con N), ((21, [.one, .one, .one]), impl_within.con N), ((22, [.one, .one, .one, .one]), impl_Buf_motion.con N)], loops := [], joins := [] }
theorem impl_Motion.cons (N : Nat) : ConsOk Try.prog (impl_Motion.cfg N).con := (consOk_cons (hb20) (impl_BufRight.ok N) (impl_BufRight.det N) (consOk_cons (hb21) (impl_within.ok N) (impl_within.det N) (consOk_cons (hb22) (impl_Buf_motion.ok N) (impl_Buf_motion.det N) consOk_nil)))
theorem impl_Motion.ls (N : Nat) : LoopsOk Try.prog (impl_Motion.cfg N) (fnBody Try.f14) := loopsL (l := []) (by kernel_rfl) trivial
theorem impl_Motion.b (N : Nat) (x0 : den (.pair (.sl 2 (.int .i64)) (.pair (.int .i64) (.pair (.int .i64) .unit)))) (x1 : den (.int .i64)) (x2 : den (.int .i64)) (x3 : den (.int .i64)) : body (impl_Motion.cfg N) N Try.f14 [.one, .one, .one, .one] [.v, .v, .v, .v] [(false, .imm)] [⟨(.pair (.sl 2 (.int .i64)) (.pair (.int .i64) (.pair (.int .i64) .unit))), .imm, x0⟩, ⟨(.int .i64), .imm, x1⟩, ⟨(.int .i64), .imm, x2⟩, ⟨(.int .i64), .imm, x3⟩] (fun r i => some (r, i)) = bindO (impl_Motion N x0 x1 x2 x3) fun r => some ([⟨(.int .i64), .imm, r⟩], []) := by
  show _ = bindF _ _
  conv => rhs; simp only [impl_Motion, bindF_ifB, bindF_bindO, bindF_pure, bindF_none, bindF_onSum]
  kernel_rfl
theorem impl_Motion.ok (N : Nat) : ConOk Try.prog 14 [.one, .one, .one, .one] (impl_Motion.con N) := by
  refine conOk_mk (g := impl_Motion.cfg N) (N := N) (res := [(false, .imm)]) tys_ok (impl_Motion.cons N) mixed Try.func14 (impl_Motion.ls N) rfl rfl ?_
  intro ds R k y h
  cases ds with
  | nil => exact none_some h
  | cons d0 ds =>
  cases ds with
  | nil => exact none_some h
  | cons d1 ds =>
  cases ds with
  | nil => exact none_some h
  | cons d2 ds =>
  cases ds with
  | nil => exact none_some h
  | cons d3 ds =>
  cases ds with
  | cons _ _ => exact none_some h
  | nil =>
  have h0 : (castDm (.pair (.sl 2 (.int .i64)) (.pair (.int .i64) (.pair (.int .i64) .unit))) .imm d0 fun x0 => castDm (.int .i64) .imm d1 fun x1 => castDm (.int .i64) .imm d2 fun x2 => castDm (.int .i64) .imm d3 fun x3 => bindO (impl_Motion N x0 x1 x2 x3) fun r => k [⟨(.int .i64), .imm, r⟩] []) = some y := h
  clear h
  obtain ⟨x0, rfl, h1⟩ := castDm_eq h0
  obtain ⟨x1, rfl, h2⟩ := castDm_eq h1
  obtain ⟨x2, rfl, h3⟩ := castDm_eq h2
  obtain ⟨x3, rfl, h4⟩ := castDm_eq h3
  exact con_fin (impl_Motion.b N x0 x1 x2 x3) h4
theorem impl_Motion.det (N : Nat) : ConDet (impl_Motion.con N) := by
  intro ds R k y h
  cases ds with
  | nil => exact none_some h
  | cons d0 ds =>
  cases ds with
  | nil => exact none_some h
  | cons d1 ds =>
  cases ds with
  | nil => exact none_some h
  | cons d2 ds =>
  cases ds with
  | nil => exact none_some h
  | cons d3 ds =>
  cases ds with
  | cons _ _ => exact none_some h
  | nil =>
  have h0 : (castDm (.pair (.sl 2 (.int .i64)) (.pair (.int .i64) (.pair (.int .i64) .unit))) .imm d0 fun x0 => castDm (.int .i64) .imm d1 fun x1 => castDm (.int .i64) .imm d2 fun x2 => castDm (.int .i64) .imm d3 fun x3 => bindO (impl_Motion N x0 x1 x2 x3) fun r => k [⟨(.int .i64), .imm, r⟩] []) = some y := h
  clear h
  obtain ⟨x0, rfl, h1⟩ := castDm_eq h0
  obtain ⟨x1, rfl, h2⟩ := castDm_eq h1
  obtain ⟨x2, rfl, h3⟩ := castDm_eq h2
  obtain ⟨x3, rfl, h4⟩ := castDm_eq h3
  obtain ⟨r, e, h⟩ := bindO_some h4
  refine ⟨_, _, h, fun k' => ?_⟩
  show (castDm (.pair (.sl 2 (.int .i64)) (.pair (.int .i64) (.pair (.int .i64) .unit))) .imm (⟨(.pair (.sl 2 (.int .i64)) (.pair (.int .i64) (.pair (.int .i64) .unit))), .imm, x0⟩ : Dy) fun x0 => castDm (.int .i64) .imm (⟨(.int .i64), .imm, x1⟩ : Dy) fun x1 => castDm (.int .i64) .imm (⟨(.int .i64), .imm, x2⟩ : Dy) fun x2 => castDm (.int .i64) .imm (⟨(.int .i64), .imm, x3⟩ : Dy) fun x3 => bindO (impl_Motion N x0 x1 x2 x3) fun r => k' [⟨(.int .i64), .imm, r⟩] []) = _
  simp only [castDm_self]
  rw [e]
  rfl
noncomputable def impl_ViMotion.con (N : Nat) : Con := { modes := [.v, .v, .v], ptrs := [false], fn := fun ds k => match ds with | [d0, d1, d2] => castDm (.pair (.sl 2 (.int .i64)) (.pair (.int .i64) (.pair (.int .i64) .unit))) .imm d0 fun x0 => castDm (.int .i64) .imm d1 fun x1 => castDm (.int .i64) .imm d2 fun x2 => bindO (impl_ViMotion N x0 x1 x2) fun r => k [⟨(.int .i64), .imm, r⟩] [] | _ => none }
noncomputable def impl_ViMotion.cfg (N : Nat) : Cfg := { ty := tys, keep := [9, 15], flt := [], elm := [(22, (.own .imm)), (23, (.pr (.own .imm) .imm)), (24, (.pr (.own .imm) .imm)), (27, (.pr (.own .imm) .imm))], live := [], ord := [], con := [((13, [.one]), impl_viKind.con N), ((14, [.one, .one, .one, .one]), impl_Motion.con N)], loops := [], joins := [] }
theorem impl_ViMotion.cons (N : Nat) : ConsOk Try.prog (impl_ViMotion.cfg N).con := (consOk_cons (hb13) (impl_viKind.ok N) (impl_viKind.det N) (consOk_cons (hb14) (impl_Motion.ok N) (impl_Motion.det N) consOk_nil))
theorem impl_ViMotion.ls (N : Nat) : LoopsOk Try.prog (impl_ViMotion.cfg N) (fnBody Try.f7) := loopsL (l := []) (by kernel_rfl) trivial
theorem impl_ViMotion.b (N : Nat) (x0 : den (.pair (.sl 2 (.int .i64)) (.pair (.int .i64) (.pair (.int .i64) .unit)))) (x1 : den (.int .i64)) (x2 : den (.int .i64)) : body (impl_ViMotion.cfg N) N Try.f7 [.one, .one, .one] [.v, .v, .v] [(false, .imm)] [⟨(.pair (.sl 2 (.int .i64)) (.pair (.int .i64) (.pair (.int .i64) .unit))), .imm, x0⟩, ⟨(.int .i64), .imm, x1⟩, ⟨(.int .i64), .imm, x2⟩] (fun r i => some (r, i)) = bindO (impl_ViMotion N x0 x1 x2) fun r => some ([⟨(.int .i64), .imm, r⟩], []) := by
  show _ = bindF _ _
  conv => rhs; simp only [impl_ViMotion, bindF_ifB, bindF_bindO, bindF_pure, bindF_none, bindF_onSum]
  kernel_rfl
theorem impl_ViMotion.ok (N : Nat) : ConOk Try.prog 7 [.one, .one, .one] (impl_ViMotion.con N) := by
  refine conOk_mk (g := impl_ViMotion.cfg N) (N := N) (res := [(false, .imm)]) tys_ok (impl_ViMotion.cons N) mixed Try.func7 (impl_ViMotion.ls N) rfl rfl ?_
  intro ds R k y h
  cases ds with
  | nil => exact none_some h
  | cons d0 ds =>
  cases ds with
  | nil => exact none_some h
  | cons d1 ds =>
  cases ds with
  | nil => exact none_some h
  | cons d2 ds =>
  cases ds with
  | cons _ _ => exact none_some h
  | nil =>
  have h0 : (castDm (.pair (.sl 2 (.int .i64)) (.pair (.int .i64) (.pair (.int .i64) .unit))) .imm d0 fun x0 => castDm (.int .i64) .imm d1 fun x1 => castDm (.int .i64) .imm d2 fun x2 => bindO (impl_ViMotion N x0 x1 x2) fun r => k [⟨(.int .i64), .imm, r⟩] []) = some y := h
  clear h
  obtain ⟨x0, rfl, h1⟩ := castDm_eq h0
  obtain ⟨x1, rfl, h2⟩ := castDm_eq h1
  obtain ⟨x2, rfl, h3⟩ := castDm_eq h2
  exact con_fin (impl_ViMotion.b N x0 x1 x2) h3
theorem impl_ViMotion.det (N : Nat) : ConDet (impl_ViMotion.con N) := by
  intro ds R k y h
  cases ds with
  | nil => exact none_some h
  | cons d0 ds =>
  cases ds with
  | nil => exact none_some h
  | cons d1 ds =>
  cases ds with
  | nil => exact none_some h
  | cons d2 ds =>
  cases ds with
  | cons _ _ => exact none_some h
  | nil =>
  have h0 : (castDm (.pair (.sl 2 (.int .i64)) (.pair (.int .i64) (.pair (.int .i64) .unit))) .imm d0 fun x0 => castDm (.int .i64) .imm d1 fun x1 => castDm (.int .i64) .imm d2 fun x2 => bindO (impl_ViMotion N x0 x1 x2) fun r => k [⟨(.int .i64), .imm, r⟩] []) = some y := h
  clear h
  obtain ⟨x0, rfl, h1⟩ := castDm_eq h0
  obtain ⟨x1, rfl, h2⟩ := castDm_eq h1
  obtain ⟨x2, rfl, h3⟩ := castDm_eq h2
  obtain ⟨r, e, h⟩ := bindO_some h3
  refine ⟨_, _, h, fun k' => ?_⟩
  show (castDm (.pair (.sl 2 (.int .i64)) (.pair (.int .i64) (.pair (.int .i64) .unit))) .imm (⟨(.pair (.sl 2 (.int .i64)) (.pair (.int .i64) (.pair (.int .i64) .unit))), .imm, x0⟩ : Dy) fun x0 => castDm (.int .i64) .imm (⟨(.int .i64), .imm, x1⟩ : Dy) fun x1 => castDm (.int .i64) .imm (⟨(.int .i64), .imm, x2⟩ : Dy) fun x2 => bindO (impl_ViMotion N x0 x1 x2) fun r => k' [⟨(.int .i64), .imm, r⟩] []) = _
  simp only [castDm_self]
  rw [e]
  rfl
def laws_eqInt64S.sk4 : Skel := ⟨[.pv (.sl 2 (.int .i64)), .pv (.sl 2 (.int .i64)), .dead, .dead, .dead, .pv (.int .i64), .dead, .dead, .dead, .dead, .dead, .dead, .dead, .dead, .dead, .dead, .dead, .dead, .dead, .dead, .dead, .dead, .dead, .dead, .dead, .dead], []⟩
def laws_eqInt64S.xs4 : List XS := [⟨.exit 0, [], ⟨[.dead, .dead, .dead, .dead, .dead, .dead, .dead, .dead, .dead, .dead, .dead, .dead, .dead, .dead, .dead, .dead, .dead, .dead, .dead, .dead, .dead, .dead, .dead, .dead, .dead, .dead], []⟩⟩, ⟨.ret, [4], ⟨[.dead, .dead, .dead, .dead, .pv .bool, .dead, .dead, .dead, .dead, .dead, .dead, .dead, .dead, .dead, .dead, .dead, .dead, .dead, .dead, .dead, .dead, .dead, .dead, .dead, .dead, .dead], []⟩⟩]
noncomputable def laws_eqInt64S.con (N : Nat) : Con := { modes := [.v, .v], ptrs := [false], fn := fun ds k => match ds with | [d0, d1] => castDm (.sl 2 (.int .i64)) .imm d0 fun x0 => castDm (.sl 2 (.int .i64)) .imm d1 fun x1 => bindO (laws_eqInt64S N x0 x1) fun r => k [⟨.bool, .imm, r⟩] [] | _ => none }
noncomputable def laws_eqInt64S.cfg (N : Nat) : Cfg := { ty := tys, keep := [], flt := [], elm := [(22, (.own .imm)), (23, (.pr (.own .imm) .imm)), (24, (.pr (.own .imm) .imm)), (27, (.pr (.own .imm) .imm))], live := [(4, [0, 1, 5])], ord := [(6, [0, 1, 2, 3, 4, 5, 6, 7, 8])], con := [], loops := [(4, loopCon N laws_eqInt64S.sk4 laws_eqInt64S.xs4 (fun {R} => laws_eqInt64S.l4 (R := R) N))], joins := [] }
theorem laws_eqInt64S.cons (N : Nat) : ConsOk Try.prog (laws_eqInt64S.cfg N).con := consOk_nil
theorem laws_eqInt64S.h4 {R : Type} (N : Nat) (d : laws_eqInt64S.sk4.D) (kn : laws_eqInt64S.sk4.D → Option R) (kx : XD laws_eqInt64S.xs4 → Option R) : roundK (laws_eqInt64S.cfg N) N (nthLoop (fnBody Try.f15) 0) laws_eqInt64S.sk4 laws_eqInt64S.xs4 d kn kx = laws_eqInt64S.l4 N d kn kx := by kernel_rfl
theorem laws_eqInt64S.i4 (N : Nat) : LoopsOk Try.prog (laws_eqInt64S.cfg N) (nthLoop (fnBody Try.f15) 0) := loopsL (l := []) (by kernel_rfl) trivial
theorem laws_eqInt64S.o4 (N : Nat) : LoopOk Try.prog (nthLoop (fnBody Try.f15) 0) (loopCon N laws_eqInt64S.sk4 laws_eqInt64S.xs4 (fun {R} => laws_eqInt64S.l4 (R := R) N)) := loop_ok (g := laws_eqInt64S.cfg N) tys_ok (laws_eqInt64S.cons N) mixed (laws_eqInt64S.i4 N) (fun d kn kx => laws_eqInt64S.h4 N d kn kx)
theorem laws_eqInt64S.ls (N : Nat) : LoopsOk Try.prog (laws_eqInt64S.cfg N) (fnBody Try.f15) := loopsL (l := [nthLoop (fnBody Try.f15) 0]) (by kernel_rfl) ⟨loopOne (L0 := loopCon N laws_eqInt64S.sk4 laws_eqInt64S.xs4 (fun {R} => laws_eqInt64S.l4 (R := R) N)) (id := 4) (by kernel_rfl) (by kernel_rfl) (laws_eqInt64S.o4 N), trivial⟩
theorem laws_eqInt64S.q4 {R R' : Type} {N n : Nat} {d} {k} {g : R → Option R'} : bindF (loopP (laws_eqInt64S.l4 N) n d k) g = loopP (laws_eqInt64S.l4 N) n d fun e => bindF (k e) g := bindF_loopP (fun d kn kx => by simp only [laws_eqInt64S.l4, bindF_ifB, bindF_bindO, bindF_pure, bindF_none, bindF_onSum]) n d k
theorem laws_eqInt64S.b (N : Nat) (x0 : den (.sl 2 (.int .i64))) (x1 : den (.sl 2 (.int .i64))) : body (laws_eqInt64S.cfg N) N Try.f15 [.one, .one] [.v, .v] [(false, .imm)] [⟨(.sl 2 (.int .i64)), .imm, x0⟩, ⟨(.sl 2 (.int .i64)), .imm, x1⟩] (fun r i => some (r, i)) = bindO (laws_eqInt64S N x0 x1) fun r => some ([⟨.bool, .imm, r⟩], []) := by
  show _ = bindF _ _
  conv => rhs; simp only [laws_eqInt64S, bindF_ifB, bindF_bindO, bindF_pure, bindF_none, bindF_onSum, laws_eqInt64S.q4]
  kernel_rfl
theorem laws_eqInt64S.ok (N : Nat) : ConOk Try.prog 15 [.one, .one] (laws_eqInt64S.con N) := by
  refine conOk_mk (g := laws_eqInt64S.cfg N) (N := N) (res := [(false, .imm)]) tys_ok (laws_eqInt64S.cons N) mixed Try.func15 (laws_eqInt64S.ls N) rfl rfl ?_
  intro ds R k y h
  cases ds with
  | nil => exact none_some h
  | cons d0 ds =>
  cases ds with
  | nil => exact none_some h
  | cons d1 ds =>
  cases ds with
  | cons _ _ => exact none_some h
  | nil =>
  have h0 : (castDm (.sl 2 (.int .i64)) .imm d0 fun x0 => castDm (.sl 2 (.int .i64)) .imm d1 fun x1 => bindO (laws_eqInt64S N x0 x1) fun r => k [⟨.bool, .imm, r⟩] []) = some y := h
  clear h
  obtain ⟨x0, rfl, h1⟩ := castDm_eq h0
  obtain ⟨x1, rfl, h2⟩ := castDm_eq h1
  exact con_fin (laws_eqInt64S.b N x0 x1) h2
theorem laws_eqInt64S.det (N : Nat) : ConDet (laws_eqInt64S.con N) := by
  intro ds R k y h
  cases ds with
  | nil => exact none_some h
  | cons d0 ds =>
  cases ds with
  | nil => exact none_some h
  | cons d1 ds =>
  cases ds with
  | cons _ _ => exact none_some h
  | nil =>
  have h0 : (castDm (.sl 2 (.int .i64)) .imm d0 fun x0 => castDm (.sl 2 (.int .i64)) .imm d1 fun x1 => bindO (laws_eqInt64S N x0 x1) fun r => k [⟨.bool, .imm, r⟩] []) = some y := h
  clear h
  obtain ⟨x0, rfl, h1⟩ := castDm_eq h0
  obtain ⟨x1, rfl, h2⟩ := castDm_eq h1
  obtain ⟨r, e, h⟩ := bindO_some h2
  refine ⟨_, _, h, fun k' => ?_⟩
  show (castDm (.sl 2 (.int .i64)) .imm (⟨(.sl 2 (.int .i64)), .imm, x0⟩ : Dy) fun x0 => castDm (.sl 2 (.int .i64)) .imm (⟨(.sl 2 (.int .i64)), .imm, x1⟩ : Dy) fun x1 => bindO (laws_eqInt64S N x0 x1) fun r => k' [⟨.bool, .imm, r⟩] []) = _
  simp only [castDm_self]
  rw [e]
  rfl
noncomputable def laws_eqBuf.con (N : Nat) : Con := { modes := [.v, .v], ptrs := [false], fn := fun ds k => match ds with | [d0, d1] => castDm (.pair (.sl 2 (.int .i64)) (.pair (.int .i64) (.pair (.int .i64) .unit))) .imm d0 fun x0 => castDm (.pair (.sl 2 (.int .i64)) (.pair (.int .i64) (.pair (.int .i64) .unit))) .imm d1 fun x1 => bindO (laws_eqBuf N x0 x1) fun r => k [⟨.bool, .imm, r⟩] [] | _ => none }
noncomputable def laws_eqBuf.cfg (N : Nat) : Cfg := { ty := tys, keep := [9], flt := [], elm := [(22, (.own .imm)), (23, (.pr (.own .imm) .imm)), (24, (.pr (.own .imm) .imm)), (27, (.pr (.own .imm) .imm))], live := [], ord := [], con := [((15, [.one, .one]), laws_eqInt64S.con N)], loops := [], joins := [] }
theorem laws_eqBuf.cons (N : Nat) : ConsOk Try.prog (laws_eqBuf.cfg N).con := (consOk_cons (hb15) (laws_eqInt64S.ok N) (laws_eqInt64S.det N) consOk_nil)
theorem laws_eqBuf.ls (N : Nat) : LoopsOk Try.prog (laws_eqBuf.cfg N) (fnBody Try.f8) := loopsL (l := []) (by kernel_rfl) trivial
theorem laws_eqBuf.b (N : Nat) (x0 : den (.pair (.sl 2 (.int .i64)) (.pair (.int .i64) (.pair (.int .i64) .unit)))) (x1 : den (.pair (.sl 2 (.int .i64)) (.pair (.int .i64) (.pair (.int .i64) .unit)))) : body (laws_eqBuf.cfg N) N Try.f8 [.one, .one] [.v, .v] [(false, .imm)] [⟨(.pair (.sl 2 (.int .i64)) (.pair (.int .i64) (.pair (.int .i64) .unit))), .imm, x0⟩, ⟨(.pair (.sl 2 (.int .i64)) (.pair (.int .i64) (.pair (.int .i64) .unit))), .imm, x1⟩] (fun r i => some (r, i)) = bindO (laws_eqBuf N x0 x1) fun r => some ([⟨.bool, .imm, r⟩], []) := by
  show _ = bindF _ _
  conv => rhs; simp only [laws_eqBuf, bindF_ifB, bindF_bindO, bindF_pure, bindF_none, bindF_onSum]
  kernel_rfl
theorem laws_eqBuf.ok (N : Nat) : ConOk Try.prog 8 [.one, .one] (laws_eqBuf.con N) := by
  refine conOk_mk (g := laws_eqBuf.cfg N) (N := N) (res := [(false, .imm)]) tys_ok (laws_eqBuf.cons N) mixed Try.func8 (laws_eqBuf.ls N) rfl rfl ?_
  intro ds R k y h
  cases ds with
  | nil => exact none_some h
  | cons d0 ds =>
  cases ds with
  | nil => exact none_some h
  | cons d1 ds =>
  cases ds with
  | cons _ _ => exact none_some h
  | nil =>
  have h0 : (castDm (.pair (.sl 2 (.int .i64)) (.pair (.int .i64) (.pair (.int .i64) .unit))) .imm d0 fun x0 => castDm (.pair (.sl 2 (.int .i64)) (.pair (.int .i64) (.pair (.int .i64) .unit))) .imm d1 fun x1 => bindO (laws_eqBuf N x0 x1) fun r => k [⟨.bool, .imm, r⟩] []) = some y := h
  clear h
  obtain ⟨x0, rfl, h1⟩ := castDm_eq h0
  obtain ⟨x1, rfl, h2⟩ := castDm_eq h1
  exact con_fin (laws_eqBuf.b N x0 x1) h2
theorem laws_eqBuf.det (N : Nat) : ConDet (laws_eqBuf.con N) := by
  intro ds R k y h
  cases ds with
  | nil => exact none_some h
  | cons d0 ds =>
  cases ds with
  | nil => exact none_some h
  | cons d1 ds =>
  cases ds with
  | cons _ _ => exact none_some h
  | nil =>
  have h0 : (castDm (.pair (.sl 2 (.int .i64)) (.pair (.int .i64) (.pair (.int .i64) .unit))) .imm d0 fun x0 => castDm (.pair (.sl 2 (.int .i64)) (.pair (.int .i64) (.pair (.int .i64) .unit))) .imm d1 fun x1 => bindO (laws_eqBuf N x0 x1) fun r => k [⟨.bool, .imm, r⟩] []) = some y := h
  clear h
  obtain ⟨x0, rfl, h1⟩ := castDm_eq h0
  obtain ⟨x1, rfl, h2⟩ := castDm_eq h1
  obtain ⟨r, e, h⟩ := bindO_some h2
  refine ⟨_, _, h, fun k' => ?_⟩
  show (castDm (.pair (.sl 2 (.int .i64)) (.pair (.int .i64) (.pair (.int .i64) .unit))) .imm (⟨(.pair (.sl 2 (.int .i64)) (.pair (.int .i64) (.pair (.int .i64) .unit))), .imm, x0⟩ : Dy) fun x0 => castDm (.pair (.sl 2 (.int .i64)) (.pair (.int .i64) (.pair (.int .i64) .unit))) .imm (⟨(.pair (.sl 2 (.int .i64)) (.pair (.int .i64) (.pair (.int .i64) .unit))), .imm, x1⟩ : Dy) fun x1 => bindO (laws_eqBuf N x0 x1) fun r => k' [⟨.bool, .imm, r⟩] []) = _
  simp only [castDm_self]
  rw [e]
  rfl
noncomputable def laws_FnExactViMotion.con (N : Nat) : Con := { modes := [.v, .v, .v], ptrs := [false], fn := fun ds k => match ds with | [d0, d1, d2] => castDm (.pair (.sl 2 (.int .i64)) (.pair (.int .i64) (.pair (.int .i64) .unit))) .imm d0 fun x0 => castDm (.int .i64) .imm d1 fun x1 => castDm (.int .i64) .imm d2 fun x2 => bindO (laws_FnExactViMotion N x0 x1 x2) fun r => k [⟨.bool, .imm, r⟩] [] | _ => none }
noncomputable def laws_FnExactViMotion.cfg (N : Nat) : Cfg := { ty := tys, keep := [13, 17, 20, 22, 26, 32, 33], flt := [], elm := [(22, (.own .imm)), (23, (.pr (.own .imm) .imm)), (24, (.pr (.own .imm) .imm)), (27, (.pr (.own .imm) .imm))], live := [], ord := [(10, [0, 1, 2, 3, 4])], con := [((4, [.one, .one]), laws_szBuf.con N), ((6, [.one]), laws_toBuf.con N), ((5, [.one, .one, .one]), spec_ViMotion.con N), ((7, [.one, .one, .one]), impl_ViMotion.con N), ((8, [.one, .one]), laws_eqBuf.con N)], loops := [], joins := [] }
theorem laws_FnExactViMotion.cons (N : Nat) : ConsOk Try.prog (laws_FnExactViMotion.cfg N).con := (consOk_cons (hb4) (laws_szBuf.ok N) (laws_szBuf.det N) (consOk_cons (hb6) (laws_toBuf.ok N) (laws_toBuf.det N) (consOk_cons (hb5) (spec_ViMotion.ok N) (spec_ViMotion.det N) (consOk_cons (hb7) (impl_ViMotion.ok N) (impl_ViMotion.det N) (consOk_cons (hb8) (laws_eqBuf.ok N) (laws_eqBuf.det N) consOk_nil)))))
theorem laws_FnExactViMotion.ls (N : Nat) : LoopsOk Try.prog (laws_FnExactViMotion.cfg N) (fnBody Try.f3) := loopsL (l := []) (by kernel_rfl) trivial
theorem laws_FnExactViMotion.b (N : Nat) (x0 : den (.pair (.sl 2 (.int .i64)) (.pair (.int .i64) (.pair (.int .i64) .unit)))) (x1 : den (.int .i64)) (x2 : den (.int .i64)) : body (laws_FnExactViMotion.cfg N) N Try.f3 [.one, .one, .one] [.v, .v, .v] [(false, .imm)] [⟨(.pair (.sl 2 (.int .i64)) (.pair (.int .i64) (.pair (.int .i64) .unit))), .imm, x0⟩, ⟨(.int .i64), .imm, x1⟩, ⟨(.int .i64), .imm, x2⟩] (fun r i => some (r, i)) = bindO (laws_FnExactViMotion N x0 x1 x2) fun r => some ([⟨.bool, .imm, r⟩], []) := by
  show _ = bindF _ _
  conv => rhs; simp only [laws_FnExactViMotion, bindF_ifB, bindF_bindO, bindF_pure, bindF_none, bindF_onSum]
  kernel_rfl
theorem laws_FnExactViMotion.ok (N : Nat) : ConOk Try.prog 3 [.one, .one, .one] (laws_FnExactViMotion.con N) := by
  refine conOk_mk (g := laws_FnExactViMotion.cfg N) (N := N) (res := [(false, .imm)]) tys_ok (laws_FnExactViMotion.cons N) mixed Try.func3 (laws_FnExactViMotion.ls N) rfl rfl ?_
  intro ds R k y h
  cases ds with
  | nil => exact none_some h
  | cons d0 ds =>
  cases ds with
  | nil => exact none_some h
  | cons d1 ds =>
  cases ds with
  | nil => exact none_some h
  | cons d2 ds =>
  cases ds with
  | cons _ _ => exact none_some h
  | nil =>
  have h0 : (castDm (.pair (.sl 2 (.int .i64)) (.pair (.int .i64) (.pair (.int .i64) .unit))) .imm d0 fun x0 => castDm (.int .i64) .imm d1 fun x1 => castDm (.int .i64) .imm d2 fun x2 => bindO (laws_FnExactViMotion N x0 x1 x2) fun r => k [⟨.bool, .imm, r⟩] []) = some y := h
  clear h
  obtain ⟨x0, rfl, h1⟩ := castDm_eq h0
  obtain ⟨x1, rfl, h2⟩ := castDm_eq h1
  obtain ⟨x2, rfl, h3⟩ := castDm_eq h2
  exact con_fin (laws_FnExactViMotion.b N x0 x1 x2) h3
theorem laws_FnExactViMotion.det (N : Nat) : ConDet (laws_FnExactViMotion.con N) := by
  intro ds R k y h
  cases ds with
  | nil => exact none_some h
  | cons d0 ds =>
  cases ds with
  | nil => exact none_some h
  | cons d1 ds =>
  cases ds with
  | nil => exact none_some h
  | cons d2 ds =>
  cases ds with
  | cons _ _ => exact none_some h
  | nil =>
  have h0 : (castDm (.pair (.sl 2 (.int .i64)) (.pair (.int .i64) (.pair (.int .i64) .unit))) .imm d0 fun x0 => castDm (.int .i64) .imm d1 fun x1 => castDm (.int .i64) .imm d2 fun x2 => bindO (laws_FnExactViMotion N x0 x1 x2) fun r => k [⟨.bool, .imm, r⟩] []) = some y := h
  clear h
  obtain ⟨x0, rfl, h1⟩ := castDm_eq h0
  obtain ⟨x1, rfl, h2⟩ := castDm_eq h1
  obtain ⟨x2, rfl, h3⟩ := castDm_eq h2
  obtain ⟨r, e, h⟩ := bindO_some h3
  refine ⟨_, _, h, fun k' => ?_⟩
  show (castDm (.pair (.sl 2 (.int .i64)) (.pair (.int .i64) (.pair (.int .i64) .unit))) .imm (⟨(.pair (.sl 2 (.int .i64)) (.pair (.int .i64) (.pair (.int .i64) .unit))), .imm, x0⟩ : Dy) fun x0 => castDm (.int .i64) .imm (⟨(.int .i64), .imm, x1⟩ : Dy) fun x1 => castDm (.int .i64) .imm (⟨(.int .i64), .imm, x2⟩ : Dy) fun x2 => bindO (laws_FnExactViMotion N x0 x1 x2) fun r => k' [⟨.bool, .imm, r⟩] []) = _
  simp only [castDm_self]
  rw [e]
  rfl
end Go.AE.F
