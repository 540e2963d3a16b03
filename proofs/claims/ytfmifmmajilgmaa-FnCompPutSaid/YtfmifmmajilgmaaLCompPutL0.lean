/- The printed functions are what the program comes to: contracts. -/
import Derived.Test.YtfmifmmajilgmaaLCompPutF1
import Derived.Test.YtfmifmmajilgmaaLCompPutT
namespace Go.AE.F
open Go.AE Go.Proofs
set_option maxRecDepth 100000
def spec_l01Source.sk3 : Skel := ⟨[.pv (.sl 5 (.int .u8)), .dead, .dead, .ptr 50 [], .pv (.int .i64), .dead, .dead, .dead, .dead, .dead, .dead, .dead, .dead, .dead, .dead, .dead, .dead, .dead, .dead, .dead, .dead, .dead, .dead, .dead, .dead, .dead, .dead, .dead, .dead, .dead, .dead, .dead, .dead, .dead, .dead, .dead, .dead, .dead, .dead, .dead, .dead, .dead, .dead, .dead, .dead, .dead, .dead], [⟨50, (.pair (.sl 5 (.int .u8)) (.pair (.int .i64) (.pair (.int .u64) (.pair (.int .i64) .unit)))), .imm, true, false⟩]⟩
def spec_l01Source.xs3 : List XS := [⟨.exit 0, [0, 3], ⟨[.pv (.sl 5 (.int .u8)), .dead, .dead, .ptr 50 [], .dead, .dead, .dead, .dead, .dead, .dead, .dead, .dead, .dead, .dead, .dead, .dead, .dead, .dead, .dead, .dead, .dead, .dead, .dead, .dead, .dead, .dead, .dead, .dead, .dead, .dead, .dead, .dead, .dead, .dead, .dead, .dead, .dead, .dead, .dead, .dead, .dead, .dead, .dead, .dead, .dead, .dead, .dead], [⟨50, (.pair (.sl 5 (.int .u8)) (.pair (.int .i64) (.pair (.int .u64) (.pair (.int .i64) .unit)))), .imm, true, false⟩]⟩⟩]
noncomputable def spec_l01Source.con (N : Nat) : Con := { modes := [.v], ptrs := [true], fn := fun ds k => match ds with | [d0] => castDm (.sl 5 (.int .u8)) .imm d0 fun x0 => bindO (spec_l01Source N x0) fun r => k [⟨(.pair (.sl 5 (.int .u8)) (.pair (.int .i64) (.pair (.int .u64) (.pair (.int .i64) .unit)))), .imm, r⟩] [] | _ => none }
noncomputable def spec_l01Source.cfg (N : Nat) : Cfg := { ty := tys, keep := [], flt := [], elm := [(22, (.own .imm)), (23, (.own .imm)), (24, (.pr (.own .imm) .imm)), (25, (.pr (.own .imm) .imm)), (26, (.own (.own .imm))), (29, (.pr (.pr (.own .imm) .imm) (.pr (.own .imm) .imm))), (30, (.pr (.pr (.own .imm) .imm) (.pr (.own .imm) .imm))), (54, (.pr (.own .imm) .imm)), (55, (.pr (.own .imm) .imm)), (61, (.own .imm))], live := [(3, [0, 3, 4, 13, 14])], ord := [(5, [0, 1, 2, 3, 4, 5, 6, 7, 8, 9, 10, 11, 12, 13, 14])], con := [], loops := [(3, loopCon N spec_l01Source.sk3 spec_l01Source.xs3 (fun {R} => spec_l01Source.l3 (R := R) N))], joins := [] }
theorem spec_l01Source.cons (N : Nat) : ConsOk Try.prog (spec_l01Source.cfg N).con := consOk_nil
theorem spec_l01Source.h3 {R : Type} (N : Nat) (d : spec_l01Source.sk3.D) (kn : spec_l01Source.sk3.D → Option R) (kx : XD spec_l01Source.xs3 → Option R) : roundK (spec_l01Source.cfg N) N (nthLoop (fnBody Try.f14) 0) spec_l01Source.sk3 spec_l01Source.xs3 d kn kx = spec_l01Source.l3 N d kn kx := by kernel_rfl
theorem spec_l01Source.i3 (N : Nat) : LoopsOk Try.prog (spec_l01Source.cfg N) (nthLoop (fnBody Try.f14) 0) := loopsL (l := []) (by kernel_rfl) trivial
theorem spec_l01Source.o3 (N : Nat) : LoopOk Try.prog (nthLoop (fnBody Try.f14) 0) (loopCon N spec_l01Source.sk3 spec_l01Source.xs3 (fun {R} => spec_l01Source.l3 (R := R) N)) := loop_ok (g := spec_l01Source.cfg N) tys_ok (spec_l01Source.cons N) mixed (spec_l01Source.i3 N) (fun d kn kx => spec_l01Source.h3 N d kn kx)
theorem spec_l01Source.ls (N : Nat) : LoopsOk Try.prog (spec_l01Source.cfg N) (fnBody Try.f14) := loopsL (l := [nthLoop (fnBody Try.f14) 0]) (by kernel_rfl) ⟨loopOne (L0 := loopCon N spec_l01Source.sk3 spec_l01Source.xs3 (fun {R} => spec_l01Source.l3 (R := R) N)) (id := 3) (by kernel_rfl) (by kernel_rfl) (spec_l01Source.o3 N), trivial⟩
theorem spec_l01Source.q3 {R R' : Type} {N n : Nat} {d} {k} {g : R → Option R'} : bindF (loopP (spec_l01Source.l3 N) n d k) g = loopP (spec_l01Source.l3 N) n d fun e => bindF (k e) g := bindF_loopP (fun d kn kx => by simp only [spec_l01Source.l3, bindF_ifB, bindF_bindO, bindF_pure, bindF_none, bindF_onSum]) n d k
theorem spec_l01Source.b (N : Nat) (x0 : den (.sl 5 (.int .u8))) : body (spec_l01Source.cfg N) N Try.f14 [.one] [.v] [(true, .imm)] [⟨(.sl 5 (.int .u8)), .imm, x0⟩] (fun r i => some (r, i)) = bindO (spec_l01Source N x0) fun r => some ([⟨(.pair (.sl 5 (.int .u8)) (.pair (.int .i64) (.pair (.int .u64) (.pair (.int .i64) .unit)))), .imm, r⟩], []) := by
  show _ = bindF _ _
  conv => rhs; simp only [spec_l01Source, bindF_ifB, bindF_bindO, bindF_pure, bindF_none, bindF_onSum, spec_l01Source.q3]
  kernel_rfl
theorem spec_l01Source.ok (N : Nat) : ConOk Try.prog 14 [.one] (spec_l01Source.con N) := by
  refine conOk_mk (g := spec_l01Source.cfg N) (N := N) (res := [(true, .imm)]) tys_ok (spec_l01Source.cons N) mixed Try.func14 (spec_l01Source.ls N) rfl rfl ?_
  intro ds R k y h
  cases ds with
  | nil => exact none_some h
  | cons d0 ds =>
  cases ds with
  | cons _ _ => exact none_some h
  | nil =>
  have h0 : (castDm (.sl 5 (.int .u8)) .imm d0 fun x0 => bindO (spec_l01Source N x0) fun r => k [⟨(.pair (.sl 5 (.int .u8)) (.pair (.int .i64) (.pair (.int .u64) (.pair (.int .i64) .unit)))), .imm, r⟩] []) = some y := h
  clear h
  obtain ⟨x0, rfl, h1⟩ := castDm_eq h0
  exact con_fin (spec_l01Source.b N x0) h1
theorem spec_l01Source.det (N : Nat) : ConDet (spec_l01Source.con N) := by
  intro ds R k y h
  cases ds with
  | nil => exact none_some h
  | cons d0 ds =>
  cases ds with
  | cons _ _ => exact none_some h
  | nil =>
  have h0 : (castDm (.sl 5 (.int .u8)) .imm d0 fun x0 => bindO (spec_l01Source N x0) fun r => k [⟨(.pair (.sl 5 (.int .u8)) (.pair (.int .i64) (.pair (.int .u64) (.pair (.int .i64) .unit)))), .imm, r⟩] []) = some y := h
  clear h
  obtain ⟨x0, rfl, h1⟩ := castDm_eq h0
  obtain ⟨r, e, h⟩ := bindO_some h1
  refine ⟨_, _, h, fun k' => ?_⟩
  show (castDm (.sl 5 (.int .u8)) .imm (⟨(.sl 5 (.int .u8)), .imm, x0⟩ : Dy) fun x0 => bindO (spec_l01Source N x0) fun r => k' [⟨(.pair (.sl 5 (.int .u8)) (.pair (.int .i64) (.pair (.int .u64) (.pair (.int .i64) .unit)))), .imm, r⟩] []) = _
  simp only [castDm_self]
  rw [e]
  rfl
noncomputable def spec_l01Src_n.con (N : Nat) : Con := { modes := [.io, .v], ptrs := [false], fn := fun ds k => match ds with | [d0, d1] => castDm (.pair (.sl 5 (.int .u8)) (.pair (.int .i64) (.pair (.int .u64) (.pair (.int .i64) .unit)))) .imm d0 fun x0 => castDm (.int .i64) .imm d1 fun x1 => bindO (spec_l01Src_n N x0 x1) fun r => k [⟨(.int .i64), .imm, r.1⟩] [⟨(.pair (.sl 5 (.int .u8)) (.pair (.int .i64) (.pair (.int .u64) (.pair (.int .i64) .unit)))), .imm, r.2⟩] | _ => none }
noncomputable def spec_l01Src_n.cfg (N : Nat) : Cfg := { ty := tys, keep := [], flt := [], elm := [(22, (.own .imm)), (23, (.own .imm)), (24, (.pr (.own .imm) .imm)), (25, (.pr (.own .imm) .imm)), (26, (.own (.own .imm))), (29, (.pr (.pr (.own .imm) .imm) (.pr (.own .imm) .imm))), (30, (.pr (.pr (.own .imm) .imm) (.pr (.own .imm) .imm))), (54, (.pr (.own .imm) .imm)), (55, (.pr (.own .imm) .imm)), (61, (.own .imm))], live := [], ord := [(4, [0, 1, 2, 3, 4, 5, 6, 7, 8, 9]), (5, [0, 1, 2, 3, 4, 5, 6, 7, 8, 9, 10, 11]), (7, [0, 1, 2, 3, 4, 5, 6, 7, 8, 9, 10, 11, 12, 13]), (8, [0, 1, 2, 3, 4, 5, 6, 7, 8, 9, 10, 11, 12, 13]), (9, [0, 1, 2, 3, 4, 5, 6, 7, 8, 9, 10, 11, 12, 13])], con := [], loops := [], joins := [] }
theorem spec_l01Src_n.cons (N : Nat) : ConsOk Try.prog (spec_l01Src_n.cfg N).con := consOk_nil
theorem spec_l01Src_n.ls (N : Nat) : LoopsOk Try.prog (spec_l01Src_n.cfg N) (fnBody Try.f36) := loopsL (l := []) (by kernel_rfl) trivial
theorem spec_l01Src_n.b (N : Nat) (x0 : den (.pair (.sl 5 (.int .u8)) (.pair (.int .i64) (.pair (.int .u64) (.pair (.int .i64) .unit))))) (x1 : den (.int .i64)) : body (spec_l01Src_n.cfg N) N Try.f36 [.one, .one] [.io, .v] [(false, .imm)] [⟨(.pair (.sl 5 (.int .u8)) (.pair (.int .i64) (.pair (.int .u64) (.pair (.int .i64) .unit)))), .imm, x0⟩, ⟨(.int .i64), .imm, x1⟩] (fun r i => some (r, i)) = bindO (spec_l01Src_n N x0 x1) fun r => some ([⟨(.int .i64), .imm, r.1⟩], [⟨(.pair (.sl 5 (.int .u8)) (.pair (.int .i64) (.pair (.int .u64) (.pair (.int .i64) .unit)))), .imm, r.2⟩]) := by
  show _ = bindF _ _
  conv => rhs; simp only [spec_l01Src_n, bindF_ifB, bindF_bindO, bindF_pure, bindF_none, bindF_onSum]
  kernel_rfl
theorem spec_l01Src_n.ok (N : Nat) : ConOk Try.prog 36 [.one, .one] (spec_l01Src_n.con N) := by
  refine conOk_mk (g := spec_l01Src_n.cfg N) (N := N) (res := [(false, .imm)]) tys_ok (spec_l01Src_n.cons N) mixed Try.func36 (spec_l01Src_n.ls N) rfl rfl ?_
  intro ds R k y h
  cases ds with
  | nil => exact none_some h
  | cons d0 ds =>
  cases ds with
  | nil => exact none_some h
  | cons d1 ds =>
  cases ds with
  | cons _ _ => exact none_some h
  | nil =>
  have h0 : (castDm (.pair (.sl 5 (.int .u8)) (.pair (.int .i64) (.pair (.int .u64) (.pair (.int .i64) .unit)))) .imm d0 fun x0 => castDm (.int .i64) .imm d1 fun x1 => bindO (spec_l01Src_n N x0 x1) fun r => k [⟨(.int .i64), .imm, r.1⟩] [⟨(.pair (.sl 5 (.int .u8)) (.pair (.int .i64) (.pair (.int .u64) (.pair (.int .i64) .unit)))), .imm, r.2⟩]) = some y := h
  clear h
  obtain ⟨x0, rfl, h1⟩ := castDm_eq h0
  obtain ⟨x1, rfl, h2⟩ := castDm_eq h1
  exact con_fin (spec_l01Src_n.b N x0 x1) h2
theorem spec_l01Src_n.det (N : Nat) : ConDet (spec_l01Src_n.con N) := by
  intro ds R k y h
  cases ds with
  | nil => exact none_some h
  | cons d0 ds =>
  cases ds with
  | nil => exact none_some h
  | cons d1 ds =>
  cases ds with
  | cons _ _ => exact none_some h
  | nil =>
  have h0 : (castDm (.pair (.sl 5 (.int .u8)) (.pair (.int .i64) (.pair (.int .u64) (.pair (.int .i64) .unit)))) .imm d0 fun x0 => castDm (.int .i64) .imm d1 fun x1 => bindO (spec_l01Src_n N x0 x1) fun r => k [⟨(.int .i64), .imm, r.1⟩] [⟨(.pair (.sl 5 (.int .u8)) (.pair (.int .i64) (.pair (.int .u64) (.pair (.int .i64) .unit)))), .imm, r.2⟩]) = some y := h
  clear h
  obtain ⟨x0, rfl, h1⟩ := castDm_eq h0
  obtain ⟨x1, rfl, h2⟩ := castDm_eq h1
  obtain ⟨r, e, h⟩ := bindO_some h2
  refine ⟨_, _, h, fun k' => ?_⟩
  show (castDm (.pair (.sl 5 (.int .u8)) (.pair (.int .i64) (.pair (.int .u64) (.pair (.int .i64) .unit)))) .imm (⟨(.pair (.sl 5 (.int .u8)) (.pair (.int .i64) (.pair (.int .u64) (.pair (.int .i64) .unit)))), .imm, x0⟩ : Dy) fun x0 => castDm (.int .i64) .imm (⟨(.int .i64), .imm, x1⟩ : Dy) fun x1 => bindO (spec_l01Src_n N x0 x1) fun r => k' [⟨(.int .i64), .imm, r.1⟩] [⟨(.pair (.sl 5 (.int .u8)) (.pair (.int .i64) (.pair (.int .u64) (.pair (.int .i64) .unit)))), .imm, r.2⟩]) = _
  simp only [castDm_self]
  rw [e]
  rfl
noncomputable def spec_l01Src_point.con (N : Nat) : Con := { modes := [.io], ptrs := [false], fn := fun ds k => match ds with | [d0] => castDm (.pair (.sl 5 (.int .u8)) (.pair (.int .i64) (.pair (.int .u64) (.pair (.int .i64) .unit)))) .imm d0 fun x0 => bindO (spec_l01Src_point N x0) fun r => k [⟨(.int .i64), .imm, r.1⟩] [⟨(.pair (.sl 5 (.int .u8)) (.pair (.int .i64) (.pair (.int .u64) (.pair (.int .i64) .unit)))), .imm, r.2⟩] | _ => none }
noncomputable def spec_l01Src_point.cfg (N : Nat) : Cfg := { ty := tys, keep := [4, 13, 20, 27, 34, 40, 43], flt := [], elm := [(22, (.own .imm)), (23, (.own .imm)), (24, (.pr (.own .imm) .imm)), (25, (.pr (.own .imm) .imm)), (26, (.own (.own .imm))), (29, (.pr (.pr (.own .imm) .imm) (.pr (.own .imm) .imm))), (30, (.pr (.pr (.own .imm) .imm) (.pr (.own .imm) .imm))), (54, (.pr (.own .imm) .imm)), (55, (.pr (.own .imm) .imm)), (61, (.own .imm))], live := [], ord := [], con := [((36, [.one, .one]), spec_l01Src_n.con N)], loops := [], joins := [] }
theorem spec_l01Src_point.cons (N : Nat) : ConsOk Try.prog (spec_l01Src_point.cfg N).con := (consOk_cons (hb36) (spec_l01Src_n.ok N) (spec_l01Src_n.det N) consOk_nil)
theorem spec_l01Src_point.ls (N : Nat) : LoopsOk Try.prog (spec_l01Src_point.cfg N) (fnBody Try.f61) := loopsL (l := []) (by kernel_rfl) trivial
theorem spec_l01Src_point.b (N : Nat) (x0 : den (.pair (.sl 5 (.int .u8)) (.pair (.int .i64) (.pair (.int .u64) (.pair (.int .i64) .unit))))) : body (spec_l01Src_point.cfg N) N Try.f61 [.one] [.io] [(false, .imm)] [⟨(.pair (.sl 5 (.int .u8)) (.pair (.int .i64) (.pair (.int .u64) (.pair (.int .i64) .unit)))), .imm, x0⟩] (fun r i => some (r, i)) = bindO (spec_l01Src_point N x0) fun r => some ([⟨(.int .i64), .imm, r.1⟩], [⟨(.pair (.sl 5 (.int .u8)) (.pair (.int .i64) (.pair (.int .u64) (.pair (.int .i64) .unit)))), .imm, r.2⟩]) := by
  show _ = bindF _ _
  conv => rhs; simp only [spec_l01Src_point, bindF_ifB, bindF_bindO, bindF_pure, bindF_none, bindF_onSum]
  kernel_rfl
theorem spec_l01Src_point.ok (N : Nat) : ConOk Try.prog 61 [.one] (spec_l01Src_point.con N) := by
  refine conOk_mk (g := spec_l01Src_point.cfg N) (N := N) (res := [(false, .imm)]) tys_ok (spec_l01Src_point.cons N) mixed Try.func61 (spec_l01Src_point.ls N) rfl rfl ?_
  intro ds R k y h
  cases ds with
  | nil => exact none_some h
  | cons d0 ds =>
  cases ds with
  | cons _ _ => exact none_some h
  | nil =>
  have h0 : (castDm (.pair (.sl 5 (.int .u8)) (.pair (.int .i64) (.pair (.int .u64) (.pair (.int .i64) .unit)))) .imm d0 fun x0 => bindO (spec_l01Src_point N x0) fun r => k [⟨(.int .i64), .imm, r.1⟩] [⟨(.pair (.sl 5 (.int .u8)) (.pair (.int .i64) (.pair (.int .u64) (.pair (.int .i64) .unit)))), .imm, r.2⟩]) = some y := h
  clear h
  obtain ⟨x0, rfl, h1⟩ := castDm_eq h0
  exact con_fin (spec_l01Src_point.b N x0) h1
theorem spec_l01Src_point.det (N : Nat) : ConDet (spec_l01Src_point.con N) := by
  intro ds R k y h
  cases ds with
  | nil => exact none_some h
  | cons d0 ds =>
  cases ds with
  | cons _ _ => exact none_some h
  | nil =>
  have h0 : (castDm (.pair (.sl 5 (.int .u8)) (.pair (.int .i64) (.pair (.int .u64) (.pair (.int .i64) .unit)))) .imm d0 fun x0 => bindO (spec_l01Src_point N x0) fun r => k [⟨(.int .i64), .imm, r.1⟩] [⟨(.pair (.sl 5 (.int .u8)) (.pair (.int .i64) (.pair (.int .u64) (.pair (.int .i64) .unit)))), .imm, r.2⟩]) = some y := h
  clear h
  obtain ⟨x0, rfl, h1⟩ := castDm_eq h0
  obtain ⟨r, e, h⟩ := bindO_some h1
  refine ⟨_, _, h, fun k' => ?_⟩
  show (castDm (.pair (.sl 5 (.int .u8)) (.pair (.int .i64) (.pair (.int .u64) (.pair (.int .i64) .unit)))) .imm (⟨(.pair (.sl 5 (.int .u8)) (.pair (.int .i64) (.pair (.int .u64) (.pair (.int .i64) .unit)))), .imm, x0⟩ : Dy) fun x0 => bindO (spec_l01Src_point N x0) fun r => k' [⟨(.int .i64), .imm, r.1⟩] [⟨(.pair (.sl 5 (.int .u8)) (.pair (.int .i64) (.pair (.int .u64) (.pair (.int .i64) .unit)))), .imm, r.2⟩]) = _
  simp only [castDm_self]
  rw [e]
  rfl
def spec_l01Src_points.sk2 : Skel := ⟨[.ptr 0 [], .pv (.int .i64), .dead, .dead, .dead, .ov 50 [], .dead, .dead, .dead, .dead, .dead, .dead, .dead, .dead, .dead, .dead, .dead], [⟨0, (.pair (.sl 5 (.int .u8)) (.pair (.int .i64) (.pair (.int .u64) (.pair (.int .i64) .unit)))), .imm, true, false⟩, ⟨50, (.sl 2 (.int .i64)), (.own .imm), false, false⟩]⟩
def spec_l01Src_points.xs2 : List XS := [⟨.exit 0, [5], ⟨[.dead, .dead, .dead, .dead, .dead, .ov 50 [], .dead, .dead, .dead, .dead, .dead, .dead, .dead, .dead, .dead, .dead, .dead], [⟨0, (.pair (.sl 5 (.int .u8)) (.pair (.int .i64) (.pair (.int .u64) (.pair (.int .i64) .unit)))), .imm, true, false⟩, ⟨50, (.sl 2 (.int .i64)), (.own .imm), false, false⟩]⟩⟩]
noncomputable def spec_l01Src_points.con (N : Nat) : Con := { modes := [.io, .v], ptrs := [false], fn := fun ds k => match ds with | [d0, d1] => castDm (.pair (.sl 5 (.int .u8)) (.pair (.int .i64) (.pair (.int .u64) (.pair (.int .i64) .unit)))) .imm d0 fun x0 => castDm (.int .i64) .imm d1 fun x1 => bindO (spec_l01Src_points N x0 x1) fun r => k [⟨(.sl 2 (.int .i64)), (.own .imm), r.1⟩] [⟨(.pair (.sl 5 (.int .u8)) (.pair (.int .i64) (.pair (.int .u64) (.pair (.int .i64) .unit)))), .imm, r.2⟩] | _ => none }
noncomputable def spec_l01Src_points.cfg (N : Nat) : Cfg := { ty := tys, keep := [13], flt := [], elm := [(22, (.own .imm)), (23, (.own .imm)), (24, (.pr (.own .imm) .imm)), (25, (.pr (.own .imm) .imm)), (26, (.own (.own .imm))), (29, (.pr (.pr (.own .imm) .imm) (.pr (.own .imm) .imm))), (30, (.pr (.pr (.own .imm) .imm) (.pr (.own .imm) .imm))), (54, (.pr (.own .imm) .imm)), (55, (.pr (.own .imm) .imm)), (61, (.own .imm))], live := [(2, [0, 1, 5])], ord := [], con := [((61, [.one]), spec_l01Src_point.con N)], loops := [(2, loopCon N spec_l01Src_points.sk2 spec_l01Src_points.xs2 (fun {R} => spec_l01Src_points.l2 (R := R) N))], joins := [] }
theorem spec_l01Src_points.cons (N : Nat) : ConsOk Try.prog (spec_l01Src_points.cfg N).con := (consOk_cons (hb61) (spec_l01Src_point.ok N) (spec_l01Src_point.det N) consOk_nil)
theorem spec_l01Src_points.h2 {R : Type} (N : Nat) (d : spec_l01Src_points.sk2.D) (kn : spec_l01Src_points.sk2.D → Option R) (kx : XD spec_l01Src_points.xs2 → Option R) : roundK (spec_l01Src_points.cfg N) N (nthLoop (fnBody Try.f35) 0) spec_l01Src_points.sk2 spec_l01Src_points.xs2 d kn kx = spec_l01Src_points.l2 N d kn kx := by kernel_rfl
theorem spec_l01Src_points.i2 (N : Nat) : LoopsOk Try.prog (spec_l01Src_points.cfg N) (nthLoop (fnBody Try.f35) 0) := loopsL (l := []) (by kernel_rfl) trivial
theorem spec_l01Src_points.o2 (N : Nat) : LoopOk Try.prog (nthLoop (fnBody Try.f35) 0) (loopCon N spec_l01Src_points.sk2 spec_l01Src_points.xs2 (fun {R} => spec_l01Src_points.l2 (R := R) N)) := loop_ok (g := spec_l01Src_points.cfg N) tys_ok (spec_l01Src_points.cons N) mixed (spec_l01Src_points.i2 N) (fun d kn kx => spec_l01Src_points.h2 N d kn kx)
theorem spec_l01Src_points.ls (N : Nat) : LoopsOk Try.prog (spec_l01Src_points.cfg N) (fnBody Try.f35) := loopsL (l := [nthLoop (fnBody Try.f35) 0]) (by kernel_rfl) ⟨loopOne (L0 := loopCon N spec_l01Src_points.sk2 spec_l01Src_points.xs2 (fun {R} => spec_l01Src_points.l2 (R := R) N)) (id := 2) (by kernel_rfl) (by kernel_rfl) (spec_l01Src_points.o2 N), trivial⟩
theorem spec_l01Src_points.q2 {R R' : Type} {N n : Nat} {d} {k} {g : R → Option R'} : bindF (loopP (spec_l01Src_points.l2 N) n d k) g = loopP (spec_l01Src_points.l2 N) n d fun e => bindF (k e) g := bindF_loopP (fun d kn kx => by simp only [spec_l01Src_points.l2, bindF_ifB, bindF_bindO, bindF_pure, bindF_none, bindF_onSum]) n d k
theorem spec_l01Src_points.b (N : Nat) (x0 : den (.pair (.sl 5 (.int .u8)) (.pair (.int .i64) (.pair (.int .u64) (.pair (.int .i64) .unit))))) (x1 : den (.int .i64)) : body (spec_l01Src_points.cfg N) N Try.f35 [.one, .one] [.io, .v] [(false, (.own .imm))] [⟨(.pair (.sl 5 (.int .u8)) (.pair (.int .i64) (.pair (.int .u64) (.pair (.int .i64) .unit)))), .imm, x0⟩, ⟨(.int .i64), .imm, x1⟩] (fun r i => some (r, i)) = bindO (spec_l01Src_points N x0 x1) fun r => some ([⟨(.sl 2 (.int .i64)), (.own .imm), r.1⟩], [⟨(.pair (.sl 5 (.int .u8)) (.pair (.int .i64) (.pair (.int .u64) (.pair (.int .i64) .unit)))), .imm, r.2⟩]) := by
  show _ = bindF _ _
  conv => rhs; simp only [spec_l01Src_points, bindF_ifB, bindF_bindO, bindF_pure, bindF_none, bindF_onSum, spec_l01Src_points.q2]
  kernel_rfl
theorem spec_l01Src_points.ok (N : Nat) : ConOk Try.prog 35 [.one, .one] (spec_l01Src_points.con N) := by
  refine conOk_mk (g := spec_l01Src_points.cfg N) (N := N) (res := [(false, (.own .imm))]) tys_ok (spec_l01Src_points.cons N) mixed Try.func35 (spec_l01Src_points.ls N) rfl rfl ?_
  intro ds R k y h
  cases ds with
  | nil => exact none_some h
  | cons d0 ds =>
  cases ds with
  | nil => exact none_some h
  | cons d1 ds =>
  cases ds with
  | cons _ _ => exact none_some h
  | nil =>
  have h0 : (castDm (.pair (.sl 5 (.int .u8)) (.pair (.int .i64) (.pair (.int .u64) (.pair (.int .i64) .unit)))) .imm d0 fun x0 => castDm (.int .i64) .imm d1 fun x1 => bindO (spec_l01Src_points N x0 x1) fun r => k [⟨(.sl 2 (.int .i64)), (.own .imm), r.1⟩] [⟨(.pair (.sl 5 (.int .u8)) (.pair (.int .i64) (.pair (.int .u64) (.pair (.int .i64) .unit)))), .imm, r.2⟩]) = some y := h
  clear h
  obtain ⟨x0, rfl, h1⟩ := castDm_eq h0
  obtain ⟨x1, rfl, h2⟩ := castDm_eq h1
  exact con_fin (spec_l01Src_points.b N x0 x1) h2
theorem spec_l01Src_points.det (N : Nat) : ConDet (spec_l01Src_points.con N) := by
  intro ds R k y h
  cases ds with
  | nil => exact none_some h
  | cons d0 ds =>
  cases ds with
  | nil => exact none_some h
  | cons d1 ds =>
  cases ds with
  | cons _ _ => exact none_some h
  | nil =>
  have h0 : (castDm (.pair (.sl 5 (.int .u8)) (.pair (.int .i64) (.pair (.int .u64) (.pair (.int .i64) .unit)))) .imm d0 fun x0 => castDm (.int .i64) .imm d1 fun x1 => bindO (spec_l01Src_points N x0 x1) fun r => k [⟨(.sl 2 (.int .i64)), (.own .imm), r.1⟩] [⟨(.pair (.sl 5 (.int .u8)) (.pair (.int .i64) (.pair (.int .u64) (.pair (.int .i64) .unit)))), .imm, r.2⟩]) = some y := h
  clear h
  obtain ⟨x0, rfl, h1⟩ := castDm_eq h0
  obtain ⟨x1, rfl, h2⟩ := castDm_eq h1
  obtain ⟨r, e, h⟩ := bindO_some h2
  refine ⟨_, _, h, fun k' => ?_⟩
  show (castDm (.pair (.sl 5 (.int .u8)) (.pair (.int .i64) (.pair (.int .u64) (.pair (.int .i64) .unit)))) .imm (⟨(.pair (.sl 5 (.int .u8)) (.pair (.int .i64) (.pair (.int .u64) (.pair (.int .i64) .unit)))), .imm, x0⟩ : Dy) fun x0 => castDm (.int .i64) .imm (⟨(.int .i64), .imm, x1⟩ : Dy) fun x1 => bindO (spec_l01Src_points N x0 x1) fun r => k' [⟨(.sl 2 (.int .i64)), (.own .imm), r.1⟩] [⟨(.pair (.sl 5 (.int .u8)) (.pair (.int .i64) (.pair (.int .u64) (.pair (.int .i64) .unit)))), .imm, r.2⟩]) = _
  simp only [castDm_self]
  rw [e]
  rfl
noncomputable def spec_l01Src_one.con (N : Nat) : Con := { modes := [.io, .v], ptrs := [false], fn := fun ds k => match ds with | [d0, d1] => castDm (.pair (.sl 5 (.int .u8)) (.pair (.int .i64) (.pair (.int .u64) (.pair (.int .i64) .unit)))) .imm d0 fun x0 => castDm (.int .i64) .imm d1 fun x1 => bindO (spec_l01Src_one N x0 x1) fun r => k [⟨.bool, .imm, r.1⟩] [⟨(.pair (.sl 5 (.int .u8)) (.pair (.int .i64) (.pair (.int .u64) (.pair (.int .i64) .unit)))), .imm, r.2⟩] | _ => none }
noncomputable def spec_l01Src_one.cfg (N : Nat) : Cfg := { ty := tys, keep := [7], flt := [], elm := [(22, (.own .imm)), (23, (.own .imm)), (24, (.pr (.own .imm) .imm)), (25, (.pr (.own .imm) .imm)), (26, (.own (.own .imm))), (29, (.pr (.pr (.own .imm) .imm) (.pr (.own .imm) .imm))), (30, (.pr (.pr (.own .imm) .imm) (.pr (.own .imm) .imm))), (54, (.pr (.own .imm) .imm)), (55, (.pr (.own .imm) .imm)), (61, (.own .imm))], live := [], ord := [], con := [((36, [.one, .one]), spec_l01Src_n.con N)], loops := [], joins := [] }
theorem spec_l01Src_one.cons (N : Nat) : ConsOk Try.prog (spec_l01Src_one.cfg N).con := (consOk_cons (hb36) (spec_l01Src_n.ok N) (spec_l01Src_n.det N) consOk_nil)
theorem spec_l01Src_one.ls (N : Nat) : LoopsOk Try.prog (spec_l01Src_one.cfg N) (fnBody Try.f37) := loopsL (l := []) (by kernel_rfl) trivial
theorem spec_l01Src_one.b (N : Nat) (x0 : den (.pair (.sl 5 (.int .u8)) (.pair (.int .i64) (.pair (.int .u64) (.pair (.int .i64) .unit))))) (x1 : den (.int .i64)) : body (spec_l01Src_one.cfg N) N Try.f37 [.one, .one] [.io, .v] [(false, .imm)] [⟨(.pair (.sl 5 (.int .u8)) (.pair (.int .i64) (.pair (.int .u64) (.pair (.int .i64) .unit)))), .imm, x0⟩, ⟨(.int .i64), .imm, x1⟩] (fun r i => some (r, i)) = bindO (spec_l01Src_one N x0 x1) fun r => some ([⟨.bool, .imm, r.1⟩], [⟨(.pair (.sl 5 (.int .u8)) (.pair (.int .i64) (.pair (.int .u64) (.pair (.int .i64) .unit)))), .imm, r.2⟩]) := by
  show _ = bindF _ _
  conv => rhs; simp only [spec_l01Src_one, bindF_ifB, bindF_bindO, bindF_pure, bindF_none, bindF_onSum]
  kernel_rfl
theorem spec_l01Src_one.ok (N : Nat) : ConOk Try.prog 37 [.one, .one] (spec_l01Src_one.con N) := by
  refine conOk_mk (g := spec_l01Src_one.cfg N) (N := N) (res := [(false, .imm)]) tys_ok (spec_l01Src_one.cons N) mixed Try.func37 (spec_l01Src_one.ls N) rfl rfl ?_
  intro ds R k y h
  cases ds with
  | nil => exact none_some h
  | cons d0 ds =>
  cases ds with
  | nil => exact none_some h
  | cons d1 ds =>
  cases ds with
  | cons _ _ => exact none_some h
  | nil =>
  have h0 : (castDm (.pair (.sl 5 (.int .u8)) (.pair (.int .i64) (.pair (.int .u64) (.pair (.int .i64) .unit)))) .imm d0 fun x0 => castDm (.int .i64) .imm d1 fun x1 => bindO (spec_l01Src_one N x0 x1) fun r => k [⟨.bool, .imm, r.1⟩] [⟨(.pair (.sl 5 (.int .u8)) (.pair (.int .i64) (.pair (.int .u64) (.pair (.int .i64) .unit)))), .imm, r.2⟩]) = some y := h
  clear h
  obtain ⟨x0, rfl, h1⟩ := castDm_eq h0
  obtain ⟨x1, rfl, h2⟩ := castDm_eq h1
  exact con_fin (spec_l01Src_one.b N x0 x1) h2
theorem spec_l01Src_one.det (N : Nat) : ConDet (spec_l01Src_one.con N) := by
  intro ds R k y h
  cases ds with
  | nil => exact none_some h
  | cons d0 ds =>
  cases ds with
  | nil => exact none_some h
  | cons d1 ds =>
  cases ds with
  | cons _ _ => exact none_some h
  | nil =>
  have h0 : (castDm (.pair (.sl 5 (.int .u8)) (.pair (.int .i64) (.pair (.int .u64) (.pair (.int .i64) .unit)))) .imm d0 fun x0 => castDm (.int .i64) .imm d1 fun x1 => bindO (spec_l01Src_one N x0 x1) fun r => k [⟨.bool, .imm, r.1⟩] [⟨(.pair (.sl 5 (.int .u8)) (.pair (.int .i64) (.pair (.int .u64) (.pair (.int .i64) .unit)))), .imm, r.2⟩]) = some y := h
  clear h
  obtain ⟨x0, rfl, h1⟩ := castDm_eq h0
  obtain ⟨x1, rfl, h2⟩ := castDm_eq h1
  obtain ⟨r, e, h⟩ := bindO_some h2
  refine ⟨_, _, h, fun k' => ?_⟩
  show (castDm (.pair (.sl 5 (.int .u8)) (.pair (.int .i64) (.pair (.int .u64) (.pair (.int .i64) .unit)))) .imm (⟨(.pair (.sl 5 (.int .u8)) (.pair (.int .i64) (.pair (.int .u64) (.pair (.int .i64) .unit)))), .imm, x0⟩ : Dy) fun x0 => castDm (.int .i64) .imm (⟨(.int .i64), .imm, x1⟩ : Dy) fun x1 => bindO (spec_l01Src_one N x0 x1) fun r => k' [⟨.bool, .imm, r.1⟩] [⟨(.pair (.sl 5 (.int .u8)) (.pair (.int .i64) (.pair (.int .u64) (.pair (.int .i64) .unit)))), .imm, r.2⟩]) = _
  simp only [castDm_self]
  rw [e]
  rfl
noncomputable def spec_l01Src_l02Buf.con (N : Nat) : Con := { modes := [.io], ptrs := [false], fn := fun ds k => match ds with | [d0] => castDm (.pair (.sl 5 (.int .u8)) (.pair (.int .i64) (.pair (.int .u64) (.pair (.int .i64) .unit)))) .imm d0 fun x0 => bindO (spec_l01Src_l02Buf N x0) fun r => k [⟨(.pair (.sl 2 (.int .i64)) (.pair (.int .i64) (.pair (.int .i64) .unit))), (.pr (.own .imm) .imm), r.1⟩] [⟨(.pair (.sl 5 (.int .u8)) (.pair (.int .i64) (.pair (.int .u64) (.pair (.int .i64) .unit)))), .imm, r.2⟩] | _ => none }
noncomputable def spec_l01Src_l02Buf.cfg (N : Nat) : Cfg := { ty := tys, keep := [13, 14, 17, 20, 22, 30, 35, 38, 40, 52, 62], flt := [], elm := [(22, (.own .imm)), (23, (.own .imm)), (24, (.pr (.own .imm) .imm)), (25, (.pr (.own .imm) .imm)), (26, (.own (.own .imm))), (29, (.pr (.pr (.own .imm) .imm) (.pr (.own .imm) .imm))), (30, (.pr (.pr (.own .imm) .imm) (.pr (.own .imm) .imm))), (54, (.pr (.own .imm) .imm)), (55, (.pr (.own .imm) .imm)), (61, (.own .imm))], live := [], ord := [], con := [((36, [.one, .one]), spec_l01Src_n.con N), ((35, [.one, .one]), spec_l01Src_points.con N), ((37, [.one, .one]), spec_l01Src_one.con N)], loops := [], joins := [] }
theorem spec_l01Src_l02Buf.cons (N : Nat) : ConsOk Try.prog (spec_l01Src_l02Buf.cfg N).con := (consOk_cons (hb36) (spec_l01Src_n.ok N) (spec_l01Src_n.det N) (consOk_cons (hb35) (spec_l01Src_points.ok N) (spec_l01Src_points.det N) (consOk_cons (hb37) (spec_l01Src_one.ok N) (spec_l01Src_one.det N) consOk_nil)))
theorem spec_l01Src_l02Buf.ls (N : Nat) : LoopsOk Try.prog (spec_l01Src_l02Buf.cfg N) (fnBody Try.f15) := loopsL (l := []) (by kernel_rfl) trivial
theorem spec_l01Src_l02Buf.b (N : Nat) (x0 : den (.pair (.sl 5 (.int .u8)) (.pair (.int .i64) (.pair (.int .u64) (.pair (.int .i64) .unit))))) : body (spec_l01Src_l02Buf.cfg N) N Try.f15 [.one] [.io] [(false, (.pr (.own .imm) .imm))] [⟨(.pair (.sl 5 (.int .u8)) (.pair (.int .i64) (.pair (.int .u64) (.pair (.int .i64) .unit)))), .imm, x0⟩] (fun r i => some (r, i)) = bindO (spec_l01Src_l02Buf N x0) fun r => some ([⟨(.pair (.sl 2 (.int .i64)) (.pair (.int .i64) (.pair (.int .i64) .unit))), (.pr (.own .imm) .imm), r.1⟩], [⟨(.pair (.sl 5 (.int .u8)) (.pair (.int .i64) (.pair (.int .u64) (.pair (.int .i64) .unit)))), .imm, r.2⟩]) := by
  show _ = bindF _ _
  conv => rhs; simp only [spec_l01Src_l02Buf, bindF_ifB, bindF_bindO, bindF_pure, bindF_none, bindF_onSum]
  kernel_rfl
theorem spec_l01Src_l02Buf.ok (N : Nat) : ConOk Try.prog 15 [.one] (spec_l01Src_l02Buf.con N) := by
  refine conOk_mk (g := spec_l01Src_l02Buf.cfg N) (N := N) (res := [(false, (.pr (.own .imm) .imm))]) tys_ok (spec_l01Src_l02Buf.cons N) mixed Try.func15 (spec_l01Src_l02Buf.ls N) rfl rfl ?_
  intro ds R k y h
  cases ds with
  | nil => exact none_some h
  | cons d0 ds =>
  cases ds with
  | cons _ _ => exact none_some h
  | nil =>
  have h0 : (castDm (.pair (.sl 5 (.int .u8)) (.pair (.int .i64) (.pair (.int .u64) (.pair (.int .i64) .unit)))) .imm d0 fun x0 => bindO (spec_l01Src_l02Buf N x0) fun r => k [⟨(.pair (.sl 2 (.int .i64)) (.pair (.int .i64) (.pair (.int .i64) .unit))), (.pr (.own .imm) .imm), r.1⟩] [⟨(.pair (.sl 5 (.int .u8)) (.pair (.int .i64) (.pair (.int .u64) (.pair (.int .i64) .unit)))), .imm, r.2⟩]) = some y := h
  clear h
  obtain ⟨x0, rfl, h1⟩ := castDm_eq h0
  exact con_fin (spec_l01Src_l02Buf.b N x0) h1
theorem spec_l01Src_l02Buf.det (N : Nat) : ConDet (spec_l01Src_l02Buf.con N) := by
  intro ds R k y h
  cases ds with
  | nil => exact none_some h
  | cons d0 ds =>
  cases ds with
  | cons _ _ => exact none_some h
  | nil =>
  have h0 : (castDm (.pair (.sl 5 (.int .u8)) (.pair (.int .i64) (.pair (.int .u64) (.pair (.int .i64) .unit)))) .imm d0 fun x0 => bindO (spec_l01Src_l02Buf N x0) fun r => k [⟨(.pair (.sl 2 (.int .i64)) (.pair (.int .i64) (.pair (.int .i64) .unit))), (.pr (.own .imm) .imm), r.1⟩] [⟨(.pair (.sl 5 (.int .u8)) (.pair (.int .i64) (.pair (.int .u64) (.pair (.int .i64) .unit)))), .imm, r.2⟩]) = some y := h
  clear h
  obtain ⟨x0, rfl, h1⟩ := castDm_eq h0
  obtain ⟨r, e, h⟩ := bindO_some h1
  refine ⟨_, _, h, fun k' => ?_⟩
  show (castDm (.pair (.sl 5 (.int .u8)) (.pair (.int .i64) (.pair (.int .u64) (.pair (.int .i64) .unit)))) .imm (⟨(.pair (.sl 5 (.int .u8)) (.pair (.int .i64) (.pair (.int .u64) (.pair (.int .i64) .unit)))), .imm, x0⟩ : Dy) fun x0 => bindO (spec_l01Src_l02Buf N x0) fun r => k' [⟨(.pair (.sl 2 (.int .i64)) (.pair (.int .i64) (.pair (.int .i64) .unit))), (.pr (.own .imm) .imm), r.1⟩] [⟨(.pair (.sl 5 (.int .u8)) (.pair (.int .i64) (.pair (.int .u64) (.pair (.int .i64) .unit)))), .imm, r.2⟩]) = _
  simp only [castDm_self]
  rw [e]
  rfl
noncomputable def spec_l01Src_pick.con (N : Nat) : Con := { modes := [.io, .v], ptrs := [false], fn := fun ds k => match ds with | [d0, d1] => castDm (.pair (.sl 5 (.int .u8)) (.pair (.int .i64) (.pair (.int .u64) (.pair (.int .i64) .unit)))) .imm d0 fun x0 => castDm (.sl 9 .str) .imm d1 fun x1 => bindO (spec_l01Src_pick N x0 x1) fun r => k [⟨.str, .imm, r.1⟩] [⟨(.pair (.sl 5 (.int .u8)) (.pair (.int .i64) (.pair (.int .u64) (.pair (.int .i64) .unit)))), .imm, r.2⟩] | _ => none }
noncomputable def spec_l01Src_pick.cfg (N : Nat) : Cfg := { ty := tys, keep := [9], flt := [], elm := [(22, (.own .imm)), (23, (.own .imm)), (24, (.pr (.own .imm) .imm)), (25, (.pr (.own .imm) .imm)), (26, (.own (.own .imm))), (29, (.pr (.pr (.own .imm) .imm) (.pr (.own .imm) .imm))), (30, (.pr (.pr (.own .imm) .imm) (.pr (.own .imm) .imm))), (54, (.pr (.own .imm) .imm)), (55, (.pr (.own .imm) .imm)), (61, (.own .imm))], live := [], ord := [], con := [((36, [.one, .one]), spec_l01Src_n.con N)], loops := [], joins := [] }
theorem spec_l01Src_pick.cons (N : Nat) : ConsOk Try.prog (spec_l01Src_pick.cfg N).con := (consOk_cons (hb36) (spec_l01Src_n.ok N) (spec_l01Src_n.det N) consOk_nil)
theorem spec_l01Src_pick.ls (N : Nat) : LoopsOk Try.prog (spec_l01Src_pick.cfg N) (fnBody Try.f40) := loopsL (l := []) (by kernel_rfl) trivial
theorem spec_l01Src_pick.b (N : Nat) (x0 : den (.pair (.sl 5 (.int .u8)) (.pair (.int .i64) (.pair (.int .u64) (.pair (.int .i64) .unit))))) (x1 : den (.sl 9 .str)) : body (spec_l01Src_pick.cfg N) N Try.f40 [.one, .one] [.io, .v] [(false, .imm)] [⟨(.pair (.sl 5 (.int .u8)) (.pair (.int .i64) (.pair (.int .u64) (.pair (.int .i64) .unit)))), .imm, x0⟩, ⟨(.sl 9 .str), .imm, x1⟩] (fun r i => some (r, i)) = bindO (spec_l01Src_pick N x0 x1) fun r => some ([⟨.str, .imm, r.1⟩], [⟨(.pair (.sl 5 (.int .u8)) (.pair (.int .i64) (.pair (.int .u64) (.pair (.int .i64) .unit)))), .imm, r.2⟩]) := by
  show _ = bindF _ _
  conv => rhs; simp only [spec_l01Src_pick, bindF_ifB, bindF_bindO, bindF_pure, bindF_none, bindF_onSum]
  kernel_rfl
theorem spec_l01Src_pick.ok (N : Nat) : ConOk Try.prog 40 [.one, .one] (spec_l01Src_pick.con N) := by
  refine conOk_mk (g := spec_l01Src_pick.cfg N) (N := N) (res := [(false, .imm)]) tys_ok (spec_l01Src_pick.cons N) mixed Try.func40 (spec_l01Src_pick.ls N) rfl rfl ?_
  intro ds R k y h
  cases ds with
  | nil => exact none_some h
  | cons d0 ds =>
  cases ds with
  | nil => exact none_some h
  | cons d1 ds =>
  cases ds with
  | cons _ _ => exact none_some h
  | nil =>
  have h0 : (castDm (.pair (.sl 5 (.int .u8)) (.pair (.int .i64) (.pair (.int .u64) (.pair (.int .i64) .unit)))) .imm d0 fun x0 => castDm (.sl 9 .str) .imm d1 fun x1 => bindO (spec_l01Src_pick N x0 x1) fun r => k [⟨.str, .imm, r.1⟩] [⟨(.pair (.sl 5 (.int .u8)) (.pair (.int .i64) (.pair (.int .u64) (.pair (.int .i64) .unit)))), .imm, r.2⟩]) = some y := h
  clear h
  obtain ⟨x0, rfl, h1⟩ := castDm_eq h0
  obtain ⟨x1, rfl, h2⟩ := castDm_eq h1
  exact con_fin (spec_l01Src_pick.b N x0 x1) h2
theorem spec_l01Src_pick.det (N : Nat) : ConDet (spec_l01Src_pick.con N) := by
  intro ds R k y h
  cases ds with
  | nil => exact none_some h
  | cons d0 ds =>
  cases ds with
  | nil => exact none_some h
  | cons d1 ds =>
  cases ds with
  | cons _ _ => exact none_some h
  | nil =>
  have h0 : (castDm (.pair (.sl 5 (.int .u8)) (.pair (.int .i64) (.pair (.int .u64) (.pair (.int .i64) .unit)))) .imm d0 fun x0 => castDm (.sl 9 .str) .imm d1 fun x1 => bindO (spec_l01Src_pick N x0 x1) fun r => k [⟨.str, .imm, r.1⟩] [⟨(.pair (.sl 5 (.int .u8)) (.pair (.int .i64) (.pair (.int .u64) (.pair (.int .i64) .unit)))), .imm, r.2⟩]) = some y := h
  clear h
  obtain ⟨x0, rfl, h1⟩ := castDm_eq h0
  obtain ⟨x1, rfl, h2⟩ := castDm_eq h1
  obtain ⟨r, e, h⟩ := bindO_some h2
  refine ⟨_, _, h, fun k' => ?_⟩
  show (castDm (.pair (.sl 5 (.int .u8)) (.pair (.int .i64) (.pair (.int .u64) (.pair (.int .i64) .unit)))) .imm (⟨(.pair (.sl 5 (.int .u8)) (.pair (.int .i64) (.pair (.int .u64) (.pair (.int .i64) .unit)))), .imm, x0⟩ : Dy) fun x0 => castDm (.sl 9 .str) .imm (⟨(.sl 9 .str), .imm, x1⟩ : Dy) fun x1 => bindO (spec_l01Src_pick N x0 x1) fun r => k' [⟨.str, .imm, r.1⟩] [⟨(.pair (.sl 5 (.int .u8)) (.pair (.int .i64) (.pair (.int .u64) (.pair (.int .i64) .unit)))), .imm, r.2⟩]) = _
  simp only [castDm_self]
  rw [e]
  rfl
noncomputable def spec_l01Point.con (N : Nat) : Con := { modes := [.v], ptrs := [false], fn := fun ds k => match ds with | [d0] => castDm (.int .i64) .imm d0 fun x0 => bindO (spec_l01Point N x0) fun r => k [⟨.bool, .imm, r⟩] [] | _ => none }
noncomputable def spec_l01Point.cfg (N : Nat) : Cfg := { ty := tys, keep := [], flt := [], elm := [(22, (.own .imm)), (23, (.own .imm)), (24, (.pr (.own .imm) .imm)), (25, (.pr (.own .imm) .imm)), (26, (.own (.own .imm))), (29, (.pr (.pr (.own .imm) .imm) (.pr (.own .imm) .imm))), (30, (.pr (.pr (.own .imm) .imm) (.pr (.own .imm) .imm))), (54, (.pr (.own .imm) .imm)), (55, (.pr (.own .imm) .imm)), (61, (.own .imm))], live := [], ord := [], con := [], loops := [], joins := [] }
theorem spec_l01Point.cons (N : Nat) : ConsOk Try.prog (spec_l01Point.cfg N).con := consOk_nil
theorem spec_l01Point.ls (N : Nat) : LoopsOk Try.prog (spec_l01Point.cfg N) (fnBody Try.f64) := loopsL (l := []) (by kernel_rfl) trivial
theorem spec_l01Point.b (N : Nat) (x0 : den (.int .i64)) : body (spec_l01Point.cfg N) N Try.f64 [.one] [.v] [(false, .imm)] [⟨(.int .i64), .imm, x0⟩] (fun r i => some (r, i)) = bindO (spec_l01Point N x0) fun r => some ([⟨.bool, .imm, r⟩], []) := by
  show _ = bindF _ _
  conv => rhs; simp only [spec_l01Point, bindF_ifB, bindF_bindO, bindF_pure, bindF_none, bindF_onSum]
  kernel_rfl
theorem spec_l01Point.ok (N : Nat) : ConOk Try.prog 64 [.one] (spec_l01Point.con N) := by
  refine conOk_mk (g := spec_l01Point.cfg N) (N := N) (res := [(false, .imm)]) tys_ok (spec_l01Point.cons N) mixed Try.func64 (spec_l01Point.ls N) rfl rfl ?_
  intro ds R k y h
  cases ds with
  | nil => exact none_some h
  | cons d0 ds =>
  cases ds with
  | cons _ _ => exact none_some h
  | nil =>
  have h0 : (castDm (.int .i64) .imm d0 fun x0 => bindO (spec_l01Point N x0) fun r => k [⟨.bool, .imm, r⟩] []) = some y := h
  clear h
  obtain ⟨x0, rfl, h1⟩ := castDm_eq h0
  exact con_fin (spec_l01Point.b N x0) h1
theorem spec_l01Point.det (N : Nat) : ConDet (spec_l01Point.con N) := by
  intro ds R k y h
  cases ds with
  | nil => exact none_some h
  | cons d0 ds =>
  cases ds with
  | cons _ _ => exact none_some h
  | nil =>
  have h0 : (castDm (.int .i64) .imm d0 fun x0 => bindO (spec_l01Point N x0) fun r => k [⟨.bool, .imm, r⟩] []) = some y := h
  clear h
  obtain ⟨x0, rfl, h1⟩ := castDm_eq h0
  obtain ⟨r, e, h⟩ := bindO_some h1
  refine ⟨_, _, h, fun k' => ?_⟩
  show (castDm (.int .i64) .imm (⟨(.int .i64), .imm, x0⟩ : Dy) fun x0 => bindO (spec_l01Point N x0) fun r => k' [⟨.bool, .imm, r⟩] []) = _
  simp only [castDm_self]
  rw [e]
  rfl
noncomputable def spec_l01Bytes.con (N : Nat) : Con := { modes := [.v], ptrs := [false], fn := fun ds k => match ds with | [d0] => castDm (.int .i64) .imm d0 fun x0 => bindO (spec_l01Bytes N x0) fun r => k [⟨(.sl 5 (.int .u8)), (.own .imm), r⟩] [] | _ => none }
noncomputable def spec_l01Bytes.cfg (N : Nat) : Cfg := { ty := tys, keep := [], flt := [], elm := [(22, (.own .imm)), (23, (.own .imm)), (24, (.pr (.own .imm) .imm)), (25, (.pr (.own .imm) .imm)), (26, (.own (.own .imm))), (29, (.pr (.pr (.own .imm) .imm) (.pr (.own .imm) .imm))), (30, (.pr (.pr (.own .imm) .imm) (.pr (.own .imm) .imm))), (54, (.pr (.own .imm) .imm)), (55, (.pr (.own .imm) .imm)), (61, (.own .imm))], live := [], ord := [], con := [], loops := [], joins := [] }
theorem spec_l01Bytes.cons (N : Nat) : ConsOk Try.prog (spec_l01Bytes.cfg N).con := consOk_nil
theorem spec_l01Bytes.ls (N : Nat) : LoopsOk Try.prog (spec_l01Bytes.cfg N) (fnBody Try.f70) := loopsL (l := []) (by kernel_rfl) trivial
theorem spec_l01Bytes.b (N : Nat) (x0 : den (.int .i64)) : body (spec_l01Bytes.cfg N) N Try.f70 [.one] [.v] [(false, (.own .imm))] [⟨(.int .i64), .imm, x0⟩] (fun r i => some (r, i)) = bindO (spec_l01Bytes N x0) fun r => some ([⟨(.sl 5 (.int .u8)), (.own .imm), r⟩], []) := by
  show _ = bindF _ _
  conv => rhs; simp only [spec_l01Bytes, bindF_ifB, bindF_bindO, bindF_pure, bindF_none, bindF_onSum]
  kernel_rfl
theorem spec_l01Bytes.ok (N : Nat) : ConOk Try.prog 70 [.one] (spec_l01Bytes.con N) := by
  refine conOk_mk (g := spec_l01Bytes.cfg N) (N := N) (res := [(false, (.own .imm))]) tys_ok (spec_l01Bytes.cons N) mixed Try.func70 (spec_l01Bytes.ls N) rfl rfl ?_
  intro ds R k y h
  cases ds with
  | nil => exact none_some h
  | cons d0 ds =>
  cases ds with
  | cons _ _ => exact none_some h
  | nil =>
  have h0 : (castDm (.int .i64) .imm d0 fun x0 => bindO (spec_l01Bytes N x0) fun r => k [⟨(.sl 5 (.int .u8)), (.own .imm), r⟩] []) = some y := h
  clear h
  obtain ⟨x0, rfl, h1⟩ := castDm_eq h0
  exact con_fin (spec_l01Bytes.b N x0) h1
theorem spec_l01Bytes.det (N : Nat) : ConDet (spec_l01Bytes.con N) := by
  intro ds R k y h
  cases ds with
  | nil => exact none_some h
  | cons d0 ds =>
  cases ds with
  | cons _ _ => exact none_some h
  | nil =>
  have h0 : (castDm (.int .i64) .imm d0 fun x0 => bindO (spec_l01Bytes N x0) fun r => k [⟨(.sl 5 (.int .u8)), (.own .imm), r⟩] []) = some y := h
  clear h
  obtain ⟨x0, rfl, h1⟩ := castDm_eq h0
  obtain ⟨r, e, h⟩ := bindO_some h1
  refine ⟨_, _, h, fun k' => ?_⟩
  show (castDm (.int .i64) .imm (⟨(.int .i64), .imm, x0⟩ : Dy) fun x0 => bindO (spec_l01Bytes N x0) fun r => k' [⟨(.sl 5 (.int .u8)), (.own .imm), r⟩] []) = _
  simp only [castDm_self]
  rw [e]
  rfl
def spec_l01First.sk18 : Skel := ⟨[.pv .str, .dead, .dead, .dead, .dead, .pv (.int .i64), .pv (.int .i64), .pv (.int .i64), .dead, .dead, .dead, .dead, .dead, .dead, .dead, .dead, .dead, .dead, .dead, .dead, .dead, .dead, .dead, .dead, .dead, .dead, .dead, .dead, .dead, .dead, .dead, .dead, .dead, .dead, .dead, .dead, .dead, .dead, .dead, .dead, .dead, .dead, .dead, .dead, .dead, .dead, .dead, .dead, .dead, .dead, .dead, .dead, .dead, .dead, .dead, .dead, .dead, .dead, .dead, .dead, .dead, .dead, .dead, .dead, .dead, .dead, .dead, .dead, .dead, .dead, .dead, .dead, .dead, .dead, .dead, .dead, .dead, .dead, .dead, .dead, .dead, .dead, .dead, .dead, .dead, .dead], []⟩
def spec_l01First.xs18 : List XS := [⟨.exit 1, [0, 5, 6, 76, 77, 78, 79, 80, 81, 82], ⟨[.pv .str, .dead, .dead, .dead, .dead, .pv (.int .i64), .pv (.int .i64), .dead, .dead, .dead, .dead, .dead, .dead, .dead, .dead, .dead, .dead, .dead, .dead, .dead, .dead, .dead, .dead, .dead, .dead, .dead, .dead, .dead, .dead, .dead, .dead, .dead, .dead, .dead, .dead, .dead, .dead, .dead, .dead, .dead, .dead, .dead, .dead, .dead, .dead, .dead, .dead, .dead, .dead, .dead, .dead, .dead, .dead, .dead, .dead, .dead, .dead, .dead, .dead, .dead, .dead, .dead, .dead, .dead, .dead, .dead, .dead, .dead, .dead, .dead, .dead, .dead, .dead, .dead, .dead, .dead, .dead, .dead, .dead, .dead, .dead, .dead, .dead, .dead, .dead, .dead], []⟩⟩, ⟨.ret, [2, 3], ⟨[.dead, .dead, .pv (.int .i64), .pv (.int .i64), .dead, .dead, .dead, .dead, .dead, .dead, .dead, .dead, .dead, .dead, .dead, .dead, .dead, .dead, .dead, .dead, .dead, .dead, .dead, .dead, .dead, .dead, .dead, .dead, .dead, .dead, .dead, .dead, .dead, .dead, .dead, .dead, .dead, .dead, .dead, .dead, .dead, .dead, .dead, .dead, .dead, .dead, .dead, .dead, .dead, .dead, .dead, .dead, .dead, .dead, .dead, .dead, .dead, .dead, .dead, .dead, .dead, .dead, .dead, .dead, .dead, .dead, .dead, .dead, .dead, .dead, .dead, .dead, .dead, .dead, .dead, .dead, .dead, .dead, .dead, .dead, .dead, .dead, .dead, .dead, .dead, .dead], []⟩⟩]
noncomputable def spec_l01First.con (N : Nat) : Con := { modes := [.v], ptrs := [false, false], fn := fun ds k => match ds with | [d0] => castDm .str .imm d0 fun x0 => bindO (spec_l01First N x0) fun r => k [⟨(.int .i64), .imm, r.1⟩, ⟨(.int .i64), .imm, r.2⟩] [] | _ => none }
noncomputable def spec_l01First.cfg (N : Nat) : Cfg := { ty := tys, keep := [73, 77], flt := [], elm := [(22, (.own .imm)), (23, (.own .imm)), (24, (.pr (.own .imm) .imm)), (25, (.pr (.own .imm) .imm)), (26, (.own (.own .imm))), (29, (.pr (.pr (.own .imm) .imm) (.pr (.own .imm) .imm))), (30, (.pr (.pr (.own .imm) .imm) (.pr (.own .imm) .imm))), (54, (.pr (.own .imm) .imm)), (55, (.pr (.own .imm) .imm)), (61, (.own .imm))], live := [(18, [0, 5, 6, 7, 59, 60, 61, 62, 76, 77, 78, 79, 80, 81, 82])], ord := [(23, [0, 1, 2, 3, 4, 7, 8, 9, 5, 6, 10, 11])], con := [((64, [.one]), spec_l01Point.con N), ((70, [.one]), spec_l01Bytes.con N)], loops := [(18, loopCon N spec_l01First.sk18 spec_l01First.xs18 (fun {R} => spec_l01First.l18 (R := R) N))], joins := [(15, [⟨.normal, [0, 5, 6, 44, 45, 46, 47, 59, 60, 61, 62, 76, 77, 78, 79, 80, 81, 82], ⟨[.pv .str, .dead, .dead, .dead, .dead, .pv (.int .i64), .pv (.int .i64), .dead, .dead, .dead, .dead, .dead, .dead, .dead, .dead, .dead, .dead, .dead, .dead, .dead, .dead, .dead, .dead, .dead, .dead, .dead, .dead, .dead, .dead, .dead, .dead, .dead, .dead, .dead, .dead, .dead, .dead, .dead, .dead, .dead, .dead, .dead, .dead, .dead, .dead, .dead, .dead, .dead, .dead, .dead, .dead, .dead, .dead, .dead, .dead, .dead, .dead, .dead, .dead, .dead, .dead, .dead, .dead, .dead, .dead, .dead, .dead, .dead, .dead, .dead, .dead, .dead, .dead, .dead, .dead, .dead, .dead, .dead, .dead, .dead, .dead, .dead, .dead, .dead, .dead, .dead], []⟩⟩])] }
theorem spec_l01First.cons (N : Nat) : ConsOk Try.prog (spec_l01First.cfg N).con := (consOk_cons (hb64) (spec_l01Point.ok N) (spec_l01Point.det N) (consOk_cons (hb70) (spec_l01Bytes.ok N) (spec_l01Bytes.det N) consOk_nil))
theorem spec_l01First.h18 {R : Type} (N : Nat) (d : spec_l01First.sk18.D) (kn : spec_l01First.sk18.D → Option R) (kx : XD spec_l01First.xs18 → Option R) : roundK (spec_l01First.cfg N) N (nthLoop (fnBody Try.f63) 0) spec_l01First.sk18 spec_l01First.xs18 d kn kx = spec_l01First.l18 N d kn kx := by kernel_rfl
theorem spec_l01First.i18 (N : Nat) : LoopsOk Try.prog (spec_l01First.cfg N) (nthLoop (fnBody Try.f63) 0) := loopsL (l := []) (by kernel_rfl) trivial
theorem spec_l01First.o18 (N : Nat) : LoopOk Try.prog (nthLoop (fnBody Try.f63) 0) (loopCon N spec_l01First.sk18 spec_l01First.xs18 (fun {R} => spec_l01First.l18 (R := R) N)) := loop_ok (g := spec_l01First.cfg N) tys_ok (spec_l01First.cons N) mixed (spec_l01First.i18 N) (fun d kn kx => spec_l01First.h18 N d kn kx)
theorem spec_l01First.ls (N : Nat) : LoopsOk Try.prog (spec_l01First.cfg N) (fnBody Try.f63) := loopsL (l := [nthLoop (fnBody Try.f63) 0]) (by kernel_rfl) ⟨loopOne (L0 := loopCon N spec_l01First.sk18 spec_l01First.xs18 (fun {R} => spec_l01First.l18 (R := R) N)) (id := 18) (by kernel_rfl) (by kernel_rfl) (spec_l01First.o18 N), trivial⟩
theorem spec_l01First.q18 {R R' : Type} {N n : Nat} {d} {k} {g : R → Option R'} : bindF (loopP (spec_l01First.l18 N) n d k) g = loopP (spec_l01First.l18 N) n d fun e => bindF (k e) g := bindF_loopP (fun d kn kx => by simp only [spec_l01First.l18, bindF_ifB, bindF_bindO, bindF_pure, bindF_none, bindF_onSum]) n d k
theorem spec_l01First.b (N : Nat) (x0 : den .str) : body (spec_l01First.cfg N) N Try.f63 [.one] [.v] [(false, .imm), (false, .imm)] [⟨.str, .imm, x0⟩] (fun r i => some (r, i)) = bindO (spec_l01First N x0) fun r => some ([⟨(.int .i64), .imm, r.1⟩, ⟨(.int .i64), .imm, r.2⟩], []) := by
  show _ = bindF _ _
  conv => rhs; simp only [spec_l01First, bindF_ifB, bindF_bindO, bindF_pure, bindF_none, bindF_onSum, spec_l01First.q18]
  kernel_rfl
theorem spec_l01First.ok (N : Nat) : ConOk Try.prog 63 [.one] (spec_l01First.con N) := by
  refine conOk_mk (g := spec_l01First.cfg N) (N := N) (res := [(false, .imm), (false, .imm)]) tys_ok (spec_l01First.cons N) mixed Try.func63 (spec_l01First.ls N) rfl rfl ?_
  intro ds R k y h
  cases ds with
  | nil => exact none_some h
  | cons d0 ds =>
  cases ds with
  | cons _ _ => exact none_some h
  | nil =>
  have h0 : (castDm .str .imm d0 fun x0 => bindO (spec_l01First N x0) fun r => k [⟨(.int .i64), .imm, r.1⟩, ⟨(.int .i64), .imm, r.2⟩] []) = some y := h
  clear h
  obtain ⟨x0, rfl, h1⟩ := castDm_eq h0
  exact con_fin (spec_l01First.b N x0) h1
theorem spec_l01First.det (N : Nat) : ConDet (spec_l01First.con N) := by
  intro ds R k y h
  cases ds with
  | nil => exact none_some h
  | cons d0 ds =>
  cases ds with
  | cons _ _ => exact none_some h
  | nil =>
  have h0 : (castDm .str .imm d0 fun x0 => bindO (spec_l01First N x0) fun r => k [⟨(.int .i64), .imm, r.1⟩, ⟨(.int .i64), .imm, r.2⟩] []) = some y := h
  clear h
  obtain ⟨x0, rfl, h1⟩ := castDm_eq h0
  obtain ⟨r, e, h⟩ := bindO_some h1
  refine ⟨_, _, h, fun k' => ?_⟩
  show (castDm .str .imm (⟨.str, .imm, x0⟩ : Dy) fun x0 => bindO (spec_l01First N x0) fun r => k' [⟨(.int .i64), .imm, r.1⟩, ⟨(.int .i64), .imm, r.2⟩] []) = _
  simp only [castDm_self]
  rw [e]
  rfl
def spec_l01Points.sk3 : Skel := ⟨[.pv .str, .dead, .dead, .ov 50 [], .pv (.int .i64), .dead, .dead, .dead, .dead, .dead, .dead, .dead, .dead, .dead, .dead, .dead, .dead, .dead, .dead, .dead, .dead, .dead, .dead, .dead, .dead, .dead, .dead], [⟨50, (.sl 2 (.int .i64)), (.own .imm), false, false⟩]⟩
def spec_l01Points.xs3 : List XS := [⟨.exit 0, [3], ⟨[.dead, .dead, .dead, .ov 50 [], .dead, .dead, .dead, .dead, .dead, .dead, .dead, .dead, .dead, .dead, .dead, .dead, .dead, .dead, .dead, .dead, .dead, .dead, .dead, .dead, .dead, .dead, .dead], [⟨50, (.sl 2 (.int .i64)), (.own .imm), false, false⟩]⟩⟩]
noncomputable def spec_l01Points.con (N : Nat) : Con := { modes := [.v], ptrs := [false], fn := fun ds k => match ds with | [d0] => castDm .str .imm d0 fun x0 => bindO (spec_l01Points N x0) fun r => k [⟨(.sl 2 (.int .i64)), (.own .imm), r⟩] [] | _ => none }
noncomputable def spec_l01Points.cfg (N : Nat) : Cfg := { ty := tys, keep := [16], flt := [], elm := [(22, (.own .imm)), (23, (.own .imm)), (24, (.pr (.own .imm) .imm)), (25, (.pr (.own .imm) .imm)), (26, (.own (.own .imm))), (29, (.pr (.pr (.own .imm) .imm) (.pr (.own .imm) .imm))), (30, (.pr (.pr (.own .imm) .imm) (.pr (.own .imm) .imm))), (54, (.pr (.own .imm) .imm)), (55, (.pr (.own .imm) .imm)), (61, (.own .imm))], live := [(3, [0, 3, 4])], ord := [], con := [((63, [.one]), spec_l01First.con N)], loops := [(3, loopCon N spec_l01Points.sk3 spec_l01Points.xs3 (fun {R} => spec_l01Points.l3 (R := R) N))], joins := [] }
theorem spec_l01Points.cons (N : Nat) : ConsOk Try.prog (spec_l01Points.cfg N).con := (consOk_cons (hb63) (spec_l01First.ok N) (spec_l01First.det N) consOk_nil)
theorem spec_l01Points.h3 {R : Type} (N : Nat) (d : spec_l01Points.sk3.D) (kn : spec_l01Points.sk3.D → Option R) (kx : XD spec_l01Points.xs3 → Option R) : roundK (spec_l01Points.cfg N) N (nthLoop (fnBody Try.f39) 0) spec_l01Points.sk3 spec_l01Points.xs3 d kn kx = spec_l01Points.l3 N d kn kx := by kernel_rfl
theorem spec_l01Points.i3 (N : Nat) : LoopsOk Try.prog (spec_l01Points.cfg N) (nthLoop (fnBody Try.f39) 0) := loopsL (l := []) (by kernel_rfl) trivial
theorem spec_l01Points.o3 (N : Nat) : LoopOk Try.prog (nthLoop (fnBody Try.f39) 0) (loopCon N spec_l01Points.sk3 spec_l01Points.xs3 (fun {R} => spec_l01Points.l3 (R := R) N)) := loop_ok (g := spec_l01Points.cfg N) tys_ok (spec_l01Points.cons N) mixed (spec_l01Points.i3 N) (fun d kn kx => spec_l01Points.h3 N d kn kx)
theorem spec_l01Points.ls (N : Nat) : LoopsOk Try.prog (spec_l01Points.cfg N) (fnBody Try.f39) := loopsL (l := [nthLoop (fnBody Try.f39) 0]) (by kernel_rfl) ⟨loopOne (L0 := loopCon N spec_l01Points.sk3 spec_l01Points.xs3 (fun {R} => spec_l01Points.l3 (R := R) N)) (id := 3) (by kernel_rfl) (by kernel_rfl) (spec_l01Points.o3 N), trivial⟩
theorem spec_l01Points.q3 {R R' : Type} {N n : Nat} {d} {k} {g : R → Option R'} : bindF (loopP (spec_l01Points.l3 N) n d k) g = loopP (spec_l01Points.l3 N) n d fun e => bindF (k e) g := bindF_loopP (fun d kn kx => by simp only [spec_l01Points.l3, bindF_ifB, bindF_bindO, bindF_pure, bindF_none, bindF_onSum]) n d k
theorem spec_l01Points.b (N : Nat) (x0 : den .str) : body (spec_l01Points.cfg N) N Try.f39 [.one] [.v] [(false, (.own .imm))] [⟨.str, .imm, x0⟩] (fun r i => some (r, i)) = bindO (spec_l01Points N x0) fun r => some ([⟨(.sl 2 (.int .i64)), (.own .imm), r⟩], []) := by
  show _ = bindF _ _
  conv => rhs; simp only [spec_l01Points, bindF_ifB, bindF_bindO, bindF_pure, bindF_none, bindF_onSum, spec_l01Points.q3]
  kernel_rfl
theorem spec_l01Points.ok (N : Nat) : ConOk Try.prog 39 [.one] (spec_l01Points.con N) := by
  refine conOk_mk (g := spec_l01Points.cfg N) (N := N) (res := [(false, (.own .imm))]) tys_ok (spec_l01Points.cons N) mixed Try.func39 (spec_l01Points.ls N) rfl rfl ?_
  intro ds R k y h
  cases ds with
  | nil => exact none_some h
  | cons d0 ds =>
  cases ds with
  | cons _ _ => exact none_some h
  | nil =>
  have h0 : (castDm .str .imm d0 fun x0 => bindO (spec_l01Points N x0) fun r => k [⟨(.sl 2 (.int .i64)), (.own .imm), r⟩] []) = some y := h
  clear h
  obtain ⟨x0, rfl, h1⟩ := castDm_eq h0
  exact con_fin (spec_l01Points.b N x0) h1
theorem spec_l01Points.det (N : Nat) : ConDet (spec_l01Points.con N) := by
  intro ds R k y h
  cases ds with
  | nil => exact none_some h
  | cons d0 ds =>
  cases ds with
  | cons _ _ => exact none_some h
  | nil =>
  have h0 : (castDm .str .imm d0 fun x0 => bindO (spec_l01Points N x0) fun r => k [⟨(.sl 2 (.int .i64)), (.own .imm), r⟩] []) = some y := h
  clear h
  obtain ⟨x0, rfl, h1⟩ := castDm_eq h0
  obtain ⟨r, e, h⟩ := bindO_some h1
  refine ⟨_, _, h, fun k' => ?_⟩
  show (castDm .str .imm (⟨.str, .imm, x0⟩ : Dy) fun x0 => bindO (spec_l01Points N x0) fun r => k' [⟨(.sl 2 (.int .i64)), (.own .imm), r⟩] []) = _
  simp only [castDm_self]
  rw [e]
  rfl
noncomputable def spec_l01Src_l15Prefix.con (N : Nat) : Con := { modes := [.io], ptrs := [false], fn := fun ds k => match ds with | [d0] => castDm (.pair (.sl 5 (.int .u8)) (.pair (.int .i64) (.pair (.int .u64) (.pair (.int .i64) .unit)))) .imm d0 fun x0 => bindO (spec_l01Src_l15Prefix N x0) fun r => k [⟨(.sl 2 (.int .i64)), (.own .imm), r.1⟩] [⟨(.pair (.sl 5 (.int .u8)) (.pair (.int .i64) (.pair (.int .u64) (.pair (.int .i64) .unit)))), .imm, r.2⟩] | _ => none }
noncomputable def spec_l01Src_l15Prefix.cfg (N : Nat) : Cfg := { ty := tys, keep := [5, 6], flt := [], elm := [(22, (.own .imm)), (23, (.own .imm)), (24, (.pr (.own .imm) .imm)), (25, (.pr (.own .imm) .imm)), (26, (.own (.own .imm))), (29, (.pr (.pr (.own .imm) .imm) (.pr (.own .imm) .imm))), (30, (.pr (.pr (.own .imm) .imm) (.pr (.own .imm) .imm))), (54, (.pr (.own .imm) .imm)), (55, (.pr (.own .imm) .imm)), (61, (.own .imm))], live := [], ord := [], con := [((40, [.one, .one]), spec_l01Src_pick.con N), ((39, [.one]), spec_l01Points.con N)], loops := [], joins := [] }
theorem spec_l01Src_l15Prefix.cons (N : Nat) : ConsOk Try.prog (spec_l01Src_l15Prefix.cfg N).con := (consOk_cons (hb40) (spec_l01Src_pick.ok N) (spec_l01Src_pick.det N) (consOk_cons (hb39) (spec_l01Points.ok N) (spec_l01Points.det N) consOk_nil))
theorem spec_l01Src_l15Prefix.ls (N : Nat) : LoopsOk Try.prog (spec_l01Src_l15Prefix.cfg N) (fnBody Try.f17) := loopsL (l := []) (by kernel_rfl) trivial
theorem spec_l01Src_l15Prefix.b (N : Nat) (x0 : den (.pair (.sl 5 (.int .u8)) (.pair (.int .i64) (.pair (.int .u64) (.pair (.int .i64) .unit))))) : body (spec_l01Src_l15Prefix.cfg N) N Try.f17 [.one] [.io] [(false, (.own .imm))] [⟨(.pair (.sl 5 (.int .u8)) (.pair (.int .i64) (.pair (.int .u64) (.pair (.int .i64) .unit)))), .imm, x0⟩] (fun r i => some (r, i)) = bindO (spec_l01Src_l15Prefix N x0) fun r => some ([⟨(.sl 2 (.int .i64)), (.own .imm), r.1⟩], [⟨(.pair (.sl 5 (.int .u8)) (.pair (.int .i64) (.pair (.int .u64) (.pair (.int .i64) .unit)))), .imm, r.2⟩]) := by
  show _ = bindF _ _
  conv => rhs; simp only [spec_l01Src_l15Prefix, bindF_ifB, bindF_bindO, bindF_pure, bindF_none, bindF_onSum]
  kernel_rfl
theorem spec_l01Src_l15Prefix.ok (N : Nat) : ConOk Try.prog 17 [.one] (spec_l01Src_l15Prefix.con N) := by
  refine conOk_mk (g := spec_l01Src_l15Prefix.cfg N) (N := N) (res := [(false, (.own .imm))]) tys_ok (spec_l01Src_l15Prefix.cons N) mixed Try.func17 (spec_l01Src_l15Prefix.ls N) rfl rfl ?_
  intro ds R k y h
  cases ds with
  | nil => exact none_some h
  | cons d0 ds =>
  cases ds with
  | cons _ _ => exact none_some h
  | nil =>
  have h0 : (castDm (.pair (.sl 5 (.int .u8)) (.pair (.int .i64) (.pair (.int .u64) (.pair (.int .i64) .unit)))) .imm d0 fun x0 => bindO (spec_l01Src_l15Prefix N x0) fun r => k [⟨(.sl 2 (.int .i64)), (.own .imm), r.1⟩] [⟨(.pair (.sl 5 (.int .u8)) (.pair (.int .i64) (.pair (.int .u64) (.pair (.int .i64) .unit)))), .imm, r.2⟩]) = some y := h
  clear h
  obtain ⟨x0, rfl, h1⟩ := castDm_eq h0
  exact con_fin (spec_l01Src_l15Prefix.b N x0) h1
theorem spec_l01Src_l15Prefix.det (N : Nat) : ConDet (spec_l01Src_l15Prefix.con N) := by
  intro ds R k y h
  cases ds with
  | nil => exact none_some h
  | cons d0 ds =>
  cases ds with
  | cons _ _ => exact none_some h
  | nil =>
  have h0 : (castDm (.pair (.sl 5 (.int .u8)) (.pair (.int .i64) (.pair (.int .u64) (.pair (.int .i64) .unit)))) .imm d0 fun x0 => bindO (spec_l01Src_l15Prefix N x0) fun r => k [⟨(.sl 2 (.int .i64)), (.own .imm), r.1⟩] [⟨(.pair (.sl 5 (.int .u8)) (.pair (.int .i64) (.pair (.int .u64) (.pair (.int .i64) .unit)))), .imm, r.2⟩]) = some y := h
  clear h
  obtain ⟨x0, rfl, h1⟩ := castDm_eq h0
  obtain ⟨r, e, h⟩ := bindO_some h1
  refine ⟨_, _, h, fun k' => ?_⟩
  show (castDm (.pair (.sl 5 (.int .u8)) (.pair (.int .i64) (.pair (.int .u64) (.pair (.int .i64) .unit)))) .imm (⟨(.pair (.sl 5 (.int .u8)) (.pair (.int .i64) (.pair (.int .u64) (.pair (.int .i64) .unit)))), .imm, x0⟩ : Dy) fun x0 => bindO (spec_l01Src_l15Prefix N x0) fun r => k' [⟨(.sl 2 (.int .i64)), (.own .imm), r.1⟩] [⟨(.pair (.sl 5 (.int .u8)) (.pair (.int .i64) (.pair (.int .u64) (.pair (.int .i64) .unit)))), .imm, r.2⟩]) = _
  simp only [castDm_self]
  rw [e]
  rfl
end Go.AE.F
