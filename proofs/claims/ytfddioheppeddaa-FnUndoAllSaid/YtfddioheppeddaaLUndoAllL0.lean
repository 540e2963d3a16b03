/- The printed functions are what the program comes to: contracts. -/
import Derived.Test.YtfddioheppeddaaLUndoAllF1
import Derived.Test.YtfddioheppeddaaLUndoAllT
namespace Go.AE.F
open Go.AE Go.Proofs
set_option maxRecDepth 100000
def spec_l01Source.sk3 : Skel := ⟨[.pv (.sl 5 (.int .u8)), .dead, .dead, .ptr 50 [], .pv (.int .i64), .dead, .dead, .dead, .dead, .dead, .dead, .dead, .dead, .dead, .dead, .dead, .dead, .dead, .dead, .dead, .dead, .dead, .dead, .dead, .dead, .dead, .dead, .dead, .dead, .dead, .dead, .dead, .dead, .dead, .dead, .dead, .dead, .dead, .dead, .dead, .dead, .dead, .dead, .dead, .dead, .dead, .dead], [⟨50, (.pair (.sl 5 (.int .u8)) (.pair (.int .i64) (.pair (.int .u64) (.pair (.int .i64) .unit)))), .imm, true, false⟩]⟩
def spec_l01Source.xs3 : List XS := [⟨.exit 0, [0, 3], ⟨[.pv (.sl 5 (.int .u8)), .dead, .dead, .ptr 50 [], .dead, .dead, .dead, .dead, .dead, .dead, .dead, .dead, .dead, .dead, .dead, .dead, .dead, .dead, .dead, .dead, .dead, .dead, .dead, .dead, .dead, .dead, .dead, .dead, .dead, .dead, .dead, .dead, .dead, .dead, .dead, .dead, .dead, .dead, .dead, .dead, .dead, .dead, .dead, .dead, .dead, .dead, .dead], [⟨50, (.pair (.sl 5 (.int .u8)) (.pair (.int .i64) (.pair (.int .u64) (.pair (.int .i64) .unit)))), .imm, true, false⟩]⟩⟩]
noncomputable def spec_l01Source.con (N : Nat) : Con := { modes := [.v], ptrs := [true], fn := fun ds k => match ds with | [d0] => castDm (.sl 5 (.int .u8)) .imm d0 fun x0 => bindO (spec_l01Source N x0) fun r => k [⟨(.pair (.sl 5 (.int .u8)) (.pair (.int .i64) (.pair (.int .u64) (.pair (.int .i64) .unit)))), .imm, r⟩] [] | _ => none }
noncomputable def spec_l01Source.cfg (N : Nat) : Cfg := { ty := tys, keep := [], flt := [], elm := [(22, (.own .imm)), (23, (.own .imm)), (24, (.pr (.own .imm) .imm)), (25, (.pr (.own .imm) .imm)), (26, (.own (.own .imm))), (29, (.own (.pr (.own .imm) .imm))), (30, (.pr (.own (.pr (.own .imm) .imm)) (.pr (.own (.pr (.own .imm) .imm)) .imm))), (31, (.pr (.own (.pr (.own .imm) .imm)) (.pr (.own (.pr (.own .imm) .imm)) .imm))), (32, (.pr (.pr (.own (.pr (.own .imm) .imm)) (.pr (.own (.pr (.own .imm) .imm)) .imm)) (.pr (.pr (.own .imm) .imm) .imm))), (33, (.pr (.pr (.own (.pr (.own .imm) .imm)) (.pr (.own (.pr (.own .imm) .imm)) .imm)) (.pr (.pr (.own .imm) .imm) .imm))), (44, (.pr (.own .imm) .imm)), (45, (.pr (.own .imm) .imm)), (52, (.pr (.pr (.own .imm) .imm) (.pr (.own .imm) .imm))), (53, (.pr (.pr (.own .imm) .imm) (.pr (.own .imm) .imm)))], live := [(3, [0, 3, 4, 13, 14])], ord := [(5, [0, 1, 2, 3, 4, 5, 6, 7, 8, 9, 10, 11, 12, 13, 14])], con := [], loops := [(3, loopCon N spec_l01Source.sk3 spec_l01Source.xs3 (fun {R} => spec_l01Source.l3 (R := R) N))], joins := [] }
theorem spec_l01Source.cons (N : Nat) : ConsOk Try.prog (spec_l01Source.cfg N).con := consOk_nil
theorem spec_l01Source.h3 {R : Type} (N : Nat) (d : spec_l01Source.sk3.D) (kn : spec_l01Source.sk3.D → Option R) (kx : XD spec_l01Source.xs3 → Option R) : roundK (spec_l01Source.cfg N) N (nthLoop (fnBody Try.f10) 0) spec_l01Source.sk3 spec_l01Source.xs3 d kn kx = spec_l01Source.l3 N d kn kx := by kernel_rfl
theorem spec_l01Source.i3 (N : Nat) : LoopsOk Try.prog (spec_l01Source.cfg N) (nthLoop (fnBody Try.f10) 0) := loopsL (l := []) (by kernel_rfl) trivial
theorem spec_l01Source.o3 (N : Nat) : LoopOk Try.prog (nthLoop (fnBody Try.f10) 0) (loopCon N spec_l01Source.sk3 spec_l01Source.xs3 (fun {R} => spec_l01Source.l3 (R := R) N)) := loop_ok (g := spec_l01Source.cfg N) tys_ok (spec_l01Source.cons N) mixed (spec_l01Source.i3 N) (fun d kn kx => spec_l01Source.h3 N d kn kx)
theorem spec_l01Source.ls (N : Nat) : LoopsOk Try.prog (spec_l01Source.cfg N) (fnBody Try.f10) := loopsL (l := [nthLoop (fnBody Try.f10) 0]) (by kernel_rfl) ⟨loopOne (L0 := loopCon N spec_l01Source.sk3 spec_l01Source.xs3 (fun {R} => spec_l01Source.l3 (R := R) N)) (id := 3) (by kernel_rfl) (by kernel_rfl) (spec_l01Source.o3 N), trivial⟩
theorem spec_l01Source.q3 {R R' : Type} {N n : Nat} {d} {k} {g : R → Option R'} : bindF (loopP (spec_l01Source.l3 N) n d k) g = loopP (spec_l01Source.l3 N) n d fun e => bindF (k e) g := bindF_loopP (fun d kn kx => by simp only [spec_l01Source.l3, bindF_ifB, bindF_bindO, bindF_pure, bindF_none, bindF_onSum]) n d k
theorem spec_l01Source.b (N : Nat) (x0 : den (.sl 5 (.int .u8))) : body (spec_l01Source.cfg N) N Try.f10 [.one] [.v] [(true, .imm)] [⟨(.sl 5 (.int .u8)), .imm, x0⟩] (fun r i => some (r, i)) = bindO (spec_l01Source N x0) fun r => some ([⟨(.pair (.sl 5 (.int .u8)) (.pair (.int .i64) (.pair (.int .u64) (.pair (.int .i64) .unit)))), .imm, r⟩], []) := by
  show _ = bindF _ _
  conv => rhs; simp only [spec_l01Source, bindF_ifB, bindF_bindO, bindF_pure, bindF_none, bindF_onSum, spec_l01Source.q3]
  kernel_rfl
theorem spec_l01Source.ok (N : Nat) : ConOk Try.prog 10 [.one] (spec_l01Source.con N) := by
  refine conOk_mk (g := spec_l01Source.cfg N) (N := N) (res := [(true, .imm)]) tys_ok (spec_l01Source.cons N) mixed Try.func10 (spec_l01Source.ls N) rfl rfl ?_
  intro ds R k y h
  cases ds with
  | nil => exact none_some h
  | cons d0 ds =>
  cases ds with
  | cons _ _ => exact none_some h
  | nil =>
  have h0 : (castDm (.sl 5 (.int .u8)) .imm d0 fun x0 => bindO (spec_l01Source N x0) fun r => k [⟨(.pair (.sl 5 (.int .u8)) (.pair (.int .i64) (.pair (.int .u64) (.pair (.int .i64) .unit)))), .imm, r⟩] []) = some y := h
  clear h
  obtain ⟨x0, rfl, h1⟩ := castDm_eq h0
  exact con_fin (spec_l01Source.b N x0) h1
theorem spec_l01Source.det (N : Nat) : ConDet (spec_l01Source.con N) := by
  intro ds R k y h
  cases ds with
  | nil => exact none_some h
  | cons d0 ds =>
  cases ds with
  | cons _ _ => exact none_some h
  | nil =>
  have h0 : (castDm (.sl 5 (.int .u8)) .imm d0 fun x0 => bindO (spec_l01Source N x0) fun r => k [⟨(.pair (.sl 5 (.int .u8)) (.pair (.int .i64) (.pair (.int .u64) (.pair (.int .i64) .unit)))), .imm, r⟩] []) = some y := h
  clear h
  obtain ⟨x0, rfl, h1⟩ := castDm_eq h0
  obtain ⟨r, e, h⟩ := bindO_some h1
  refine ⟨_, _, h, fun k' => ?_⟩
  show (castDm (.sl 5 (.int .u8)) .imm (⟨(.sl 5 (.int .u8)), .imm, x0⟩ : Dy) fun x0 => bindO (spec_l01Source N x0) fun r => k' [⟨(.pair (.sl 5 (.int .u8)) (.pair (.int .i64) (.pair (.int .u64) (.pair (.int .i64) .unit)))), .imm, r⟩] []) = _
  simp only [castDm_self]
  rw [e]
  rfl
noncomputable def spec_l01Src_n.con (N : Nat) : Con := { modes := [.io, .v], ptrs := [false], fn := fun ds k => match ds with | [d0, d1] => castDm (.pair (.sl 5 (.int .u8)) (.pair (.int .i64) (.pair (.int .u64) (.pair (.int .i64) .unit)))) .imm d0 fun x0 => castDm (.int .i64) .imm d1 fun x1 => bindO (spec_l01Src_n N x0 x1) fun r => k [⟨(.int .i64), .imm, r.1⟩] [⟨(.pair (.sl 5 (.int .u8)) (.pair (.int .i64) (.pair (.int .u64) (.pair (.int .i64) .unit)))), .imm, r.2⟩] | _ => none }
noncomputable def spec_l01Src_n.cfg (N : Nat) : Cfg := { ty := tys, keep := [], flt := [], elm := [(22, (.own .imm)), (23, (.own .imm)), (24, (.pr (.own .imm) .imm)), (25, (.pr (.own .imm) .imm)), (26, (.own (.own .imm))), (29, (.own (.pr (.own .imm) .imm))), (30, (.pr (.own (.pr (.own .imm) .imm)) (.pr (.own (.pr (.own .imm) .imm)) .imm))), (31, (.pr (.own (.pr (.own .imm) .imm)) (.pr (.own (.pr (.own .imm) .imm)) .imm))), (32, (.pr (.pr (.own (.pr (.own .imm) .imm)) (.pr (.own (.pr (.own .imm) .imm)) .imm)) (.pr (.pr (.own .imm) .imm) .imm))), (33, (.pr (.pr (.own (.pr (.own .imm) .imm)) (.pr (.own (.pr (.own .imm) .imm)) .imm)) (.pr (.pr (.own .imm) .imm) .imm))), (44, (.pr (.own .imm) .imm)), (45, (.pr (.own .imm) .imm)), (52, (.pr (.pr (.own .imm) .imm) (.pr (.own .imm) .imm))), (53, (.pr (.pr (.own .imm) .imm) (.pr (.own .imm) .imm)))], live := [], ord := [(4, [0, 1, 2, 3, 4, 5, 6, 7, 8, 9]), (5, [0, 1, 2, 3, 4, 5, 6, 7, 8, 9, 10, 11]), (7, [0, 1, 2, 3, 4, 5, 6, 7, 8, 9, 10, 11, 12, 13]), (8, [0, 1, 2, 3, 4, 5, 6, 7, 8, 9, 10, 11, 12, 13]), (9, [0, 1, 2, 3, 4, 5, 6, 7, 8, 9, 10, 11, 12, 13])], con := [], loops := [], joins := [] }
theorem spec_l01Src_n.cons (N : Nat) : ConsOk Try.prog (spec_l01Src_n.cfg N).con := consOk_nil
theorem spec_l01Src_n.ls (N : Nat) : LoopsOk Try.prog (spec_l01Src_n.cfg N) (fnBody Try.f12) := loopsL (l := []) (by kernel_rfl) trivial
theorem spec_l01Src_n.b (N : Nat) (x0 : den (.pair (.sl 5 (.int .u8)) (.pair (.int .i64) (.pair (.int .u64) (.pair (.int .i64) .unit))))) (x1 : den (.int .i64)) : body (spec_l01Src_n.cfg N) N Try.f12 [.one, .one] [.io, .v] [(false, .imm)] [⟨(.pair (.sl 5 (.int .u8)) (.pair (.int .i64) (.pair (.int .u64) (.pair (.int .i64) .unit)))), .imm, x0⟩, ⟨(.int .i64), .imm, x1⟩] (fun r i => some (r, i)) = bindO (spec_l01Src_n N x0 x1) fun r => some ([⟨(.int .i64), .imm, r.1⟩], [⟨(.pair (.sl 5 (.int .u8)) (.pair (.int .i64) (.pair (.int .u64) (.pair (.int .i64) .unit)))), .imm, r.2⟩]) := by
  show _ = bindF _ _
  conv => rhs; simp only [spec_l01Src_n, bindF_ifB, bindF_bindO, bindF_pure, bindF_none, bindF_onSum]
  kernel_rfl
theorem spec_l01Src_n.ok (N : Nat) : ConOk Try.prog 12 [.one, .one] (spec_l01Src_n.con N) := by
  refine conOk_mk (g := spec_l01Src_n.cfg N) (N := N) (res := [(false, .imm)]) tys_ok (spec_l01Src_n.cons N) mixed Try.func12 (spec_l01Src_n.ls N) rfl rfl ?_
  intro ds R k y h
  cases ds with
  | nil => exact none_some h
  | cons d0 ds =>
  cases ds with
  | nil => exact none_some h
  | cons d1 ds =>
  cases ds with
  | cons _ _ => exact none_some h
  | nil =>
  have h0 : (castDm (.pair (.sl 5 (.int .u8)) (.pair (.int .i64) (.pair (.int .u64) (.pair (.int .i64) .unit)))) .imm d0 fun x0 => castDm (.int .i64) .imm d1 fun x1 => bindO (spec_l01Src_n N x0 x1) fun r => k [⟨(.int .i64), .imm, r.1⟩] [⟨(.pair (.sl 5 (.int .u8)) (.pair (.int .i64) (.pair (.int .u64) (.pair (.int .i64) .unit)))), .imm, r.2⟩]) = some y := h
  clear h
  obtain ⟨x0, rfl, h1⟩ := castDm_eq h0
  obtain ⟨x1, rfl, h2⟩ := castDm_eq h1
  exact con_fin (spec_l01Src_n.b N x0 x1) h2
theorem spec_l01Src_n.det (N : Nat) : ConDet (spec_l01Src_n.con N) := by
  intro ds R k y h
  cases ds with
  | nil => exact none_some h
  | cons d0 ds =>
  cases ds with
  | nil => exact none_some h
  | cons d1 ds =>
  cases ds with
  | cons _ _ => exact none_some h
  | nil =>
  have h0 : (castDm (.pair (.sl 5 (.int .u8)) (.pair (.int .i64) (.pair (.int .u64) (.pair (.int .i64) .unit)))) .imm d0 fun x0 => castDm (.int .i64) .imm d1 fun x1 => bindO (spec_l01Src_n N x0 x1) fun r => k [⟨(.int .i64), .imm, r.1⟩] [⟨(.pair (.sl 5 (.int .u8)) (.pair (.int .i64) (.pair (.int .u64) (.pair (.int .i64) .unit)))), .imm, r.2⟩]) = some y := h
  clear h
  obtain ⟨x0, rfl, h1⟩ := castDm_eq h0
  obtain ⟨x1, rfl, h2⟩ := castDm_eq h1
  obtain ⟨r, e, h⟩ := bindO_some h2
  refine ⟨_, _, h, fun k' => ?_⟩
  show (castDm (.pair (.sl 5 (.int .u8)) (.pair (.int .i64) (.pair (.int .u64) (.pair (.int .i64) .unit)))) .imm (⟨(.pair (.sl 5 (.int .u8)) (.pair (.int .i64) (.pair (.int .u64) (.pair (.int .i64) .unit)))), .imm, x0⟩ : Dy) fun x0 => castDm (.int .i64) .imm (⟨(.int .i64), .imm, x1⟩ : Dy) fun x1 => bindO (spec_l01Src_n N x0 x1) fun r => k' [⟨(.int .i64), .imm, r.1⟩] [⟨(.pair (.sl 5 (.int .u8)) (.pair (.int .i64) (.pair (.int .u64) (.pair (.int .i64) .unit)))), .imm, r.2⟩]) = _
  simp only [castDm_self]
  rw [e]
  rfl
noncomputable def spec_l01Src_point.con (N : Nat) : Con := { modes := [.io], ptrs := [false], fn := fun ds k => match ds with | [d0] => castDm (.pair (.sl 5 (.int .u8)) (.pair (.int .i64) (.pair (.int .u64) (.pair (.int .i64) .unit)))) .imm d0 fun x0 => bindO (spec_l01Src_point N x0) fun r => k [⟨(.int .i64), .imm, r.1⟩] [⟨(.pair (.sl 5 (.int .u8)) (.pair (.int .i64) (.pair (.int .u64) (.pair (.int .i64) .unit)))), .imm, r.2⟩] | _ => none }
noncomputable def spec_l01Src_point.cfg (N : Nat) : Cfg := { ty := tys, keep := [4, 13, 20, 27, 34, 40, 43], flt := [], elm := [(22, (.own .imm)), (23, (.own .imm)), (24, (.pr (.own .imm) .imm)), (25, (.pr (.own .imm) .imm)), (26, (.own (.own .imm))), (29, (.own (.pr (.own .imm) .imm))), (30, (.pr (.own (.pr (.own .imm) .imm)) (.pr (.own (.pr (.own .imm) .imm)) .imm))), (31, (.pr (.own (.pr (.own .imm) .imm)) (.pr (.own (.pr (.own .imm) .imm)) .imm))), (32, (.pr (.pr (.own (.pr (.own .imm) .imm)) (.pr (.own (.pr (.own .imm) .imm)) .imm)) (.pr (.pr (.own .imm) .imm) .imm))), (33, (.pr (.pr (.own (.pr (.own .imm) .imm)) (.pr (.own (.pr (.own .imm) .imm)) .imm)) (.pr (.pr (.own .imm) .imm) .imm))), (44, (.pr (.own .imm) .imm)), (45, (.pr (.own .imm) .imm)), (52, (.pr (.pr (.own .imm) .imm) (.pr (.own .imm) .imm))), (53, (.pr (.pr (.own .imm) .imm) (.pr (.own .imm) .imm)))], live := [], ord := [], con := [((12, [.one, .one]), spec_l01Src_n.con N)], loops := [], joins := [] }
theorem spec_l01Src_point.cons (N : Nat) : ConsOk Try.prog (spec_l01Src_point.cfg N).con := (consOk_cons (hb12) (spec_l01Src_n.ok N) (spec_l01Src_n.det N) consOk_nil)
theorem spec_l01Src_point.ls (N : Nat) : LoopsOk Try.prog (spec_l01Src_point.cfg N) (fnBody Try.f31) := loopsL (l := []) (by kernel_rfl) trivial
theorem spec_l01Src_point.b (N : Nat) (x0 : den (.pair (.sl 5 (.int .u8)) (.pair (.int .i64) (.pair (.int .u64) (.pair (.int .i64) .unit))))) : body (spec_l01Src_point.cfg N) N Try.f31 [.one] [.io] [(false, .imm)] [⟨(.pair (.sl 5 (.int .u8)) (.pair (.int .i64) (.pair (.int .u64) (.pair (.int .i64) .unit)))), .imm, x0⟩] (fun r i => some (r, i)) = bindO (spec_l01Src_point N x0) fun r => some ([⟨(.int .i64), .imm, r.1⟩], [⟨(.pair (.sl 5 (.int .u8)) (.pair (.int .i64) (.pair (.int .u64) (.pair (.int .i64) .unit)))), .imm, r.2⟩]) := by
  show _ = bindF _ _
  conv => rhs; simp only [spec_l01Src_point, bindF_ifB, bindF_bindO, bindF_pure, bindF_none, bindF_onSum]
  kernel_rfl
theorem spec_l01Src_point.ok (N : Nat) : ConOk Try.prog 31 [.one] (spec_l01Src_point.con N) := by
  refine conOk_mk (g := spec_l01Src_point.cfg N) (N := N) (res := [(false, .imm)]) tys_ok (spec_l01Src_point.cons N) mixed Try.func31 (spec_l01Src_point.ls N) rfl rfl ?_
  intro ds R k y h
  cases ds with
  | nil => exact none_some h
  | cons d0 ds =>
  cases ds with
  | cons _ _ => exact none_some h
  | nil =>
  have h0 : (castDm (.pair (.sl 5 (.int .u8)) (.pair (.int .i64) (.pair (.int .u64) (.pair (.int .i64) .unit)))) .imm d0 fun x0 => bindO (spec_l01Src_point N x0) fun r => k [⟨(.int .i64), .imm, r.1⟩] [⟨(.pair (.sl 5 (.int .u8)) (.pair (.int .i64) (.pair (.int .u64) (.pair (.int .i64) .unit)))), .imm, r.2⟩]) = some y := h
  clear h
  obtain ⟨x0, rfl, h1⟩ := castDm_eq h0
  exact con_fin (spec_l01Src_point.b N x0) h1
theorem spec_l01Src_point.det (N : Nat) : ConDet (spec_l01Src_point.con N) := by
  intro ds R k y h
  cases ds with
  | nil => exact none_some h
  | cons d0 ds =>
  cases ds with
  | cons _ _ => exact none_some h
  | nil =>
  have h0 : (castDm (.pair (.sl 5 (.int .u8)) (.pair (.int .i64) (.pair (.int .u64) (.pair (.int .i64) .unit)))) .imm d0 fun x0 => bindO (spec_l01Src_point N x0) fun r => k [⟨(.int .i64), .imm, r.1⟩] [⟨(.pair (.sl 5 (.int .u8)) (.pair (.int .i64) (.pair (.int .u64) (.pair (.int .i64) .unit)))), .imm, r.2⟩]) = some y := h
  clear h
  obtain ⟨x0, rfl, h1⟩ := castDm_eq h0
  obtain ⟨r, e, h⟩ := bindO_some h1
  refine ⟨_, _, h, fun k' => ?_⟩
  show (castDm (.pair (.sl 5 (.int .u8)) (.pair (.int .i64) (.pair (.int .u64) (.pair (.int .i64) .unit)))) .imm (⟨(.pair (.sl 5 (.int .u8)) (.pair (.int .i64) (.pair (.int .u64) (.pair (.int .i64) .unit)))), .imm, x0⟩ : Dy) fun x0 => bindO (spec_l01Src_point N x0) fun r => k' [⟨(.int .i64), .imm, r.1⟩] [⟨(.pair (.sl 5 (.int .u8)) (.pair (.int .i64) (.pair (.int .u64) (.pair (.int .i64) .unit)))), .imm, r.2⟩]) = _
  simp only [castDm_self]
  rw [e]
  rfl
def spec_l01Src_points.sk2 : Skel := ⟨[.ptr 0 [], .pv (.int .i64), .dead, .dead, .dead, .ov 50 [], .dead, .dead, .dead, .dead, .dead, .dead, .dead, .dead, .dead, .dead, .dead], [⟨0, (.pair (.sl 5 (.int .u8)) (.pair (.int .i64) (.pair (.int .u64) (.pair (.int .i64) .unit)))), .imm, true, false⟩, ⟨50, (.sl 2 (.int .i64)), (.own .imm), false, false⟩]⟩
def spec_l01Src_points.xs2 : List XS := [⟨.exit 0, [5], ⟨[.dead, .dead, .dead, .dead, .dead, .ov 50 [], .dead, .dead, .dead, .dead, .dead, .dead, .dead, .dead, .dead, .dead, .dead], [⟨0, (.pair (.sl 5 (.int .u8)) (.pair (.int .i64) (.pair (.int .u64) (.pair (.int .i64) .unit)))), .imm, true, false⟩, ⟨50, (.sl 2 (.int .i64)), (.own .imm), false, false⟩]⟩⟩]
noncomputable def spec_l01Src_points.con (N : Nat) : Con := { modes := [.io, .v], ptrs := [false], fn := fun ds k => match ds with | [d0, d1] => castDm (.pair (.sl 5 (.int .u8)) (.pair (.int .i64) (.pair (.int .u64) (.pair (.int .i64) .unit)))) .imm d0 fun x0 => castDm (.int .i64) .imm d1 fun x1 => bindO (spec_l01Src_points N x0 x1) fun r => k [⟨(.sl 2 (.int .i64)), (.own .imm), r.1⟩] [⟨(.pair (.sl 5 (.int .u8)) (.pair (.int .i64) (.pair (.int .u64) (.pair (.int .i64) .unit)))), .imm, r.2⟩] | _ => none }
noncomputable def spec_l01Src_points.cfg (N : Nat) : Cfg := { ty := tys, keep := [13], flt := [], elm := [(22, (.own .imm)), (23, (.own .imm)), (24, (.pr (.own .imm) .imm)), (25, (.pr (.own .imm) .imm)), (26, (.own (.own .imm))), (29, (.own (.pr (.own .imm) .imm))), (30, (.pr (.own (.pr (.own .imm) .imm)) (.pr (.own (.pr (.own .imm) .imm)) .imm))), (31, (.pr (.own (.pr (.own .imm) .imm)) (.pr (.own (.pr (.own .imm) .imm)) .imm))), (32, (.pr (.pr (.own (.pr (.own .imm) .imm)) (.pr (.own (.pr (.own .imm) .imm)) .imm)) (.pr (.pr (.own .imm) .imm) .imm))), (33, (.pr (.pr (.own (.pr (.own .imm) .imm)) (.pr (.own (.pr (.own .imm) .imm)) .imm)) (.pr (.pr (.own .imm) .imm) .imm))), (44, (.pr (.own .imm) .imm)), (45, (.pr (.own .imm) .imm)), (52, (.pr (.pr (.own .imm) .imm) (.pr (.own .imm) .imm))), (53, (.pr (.pr (.own .imm) .imm) (.pr (.own .imm) .imm)))], live := [(2, [0, 1, 5])], ord := [], con := [((31, [.one]), spec_l01Src_point.con N)], loops := [(2, loopCon N spec_l01Src_points.sk2 spec_l01Src_points.xs2 (fun {R} => spec_l01Src_points.l2 (R := R) N))], joins := [] }
theorem spec_l01Src_points.cons (N : Nat) : ConsOk Try.prog (spec_l01Src_points.cfg N).con := (consOk_cons (hb31) (spec_l01Src_point.ok N) (spec_l01Src_point.det N) consOk_nil)
theorem spec_l01Src_points.h2 {R : Type} (N : Nat) (d : spec_l01Src_points.sk2.D) (kn : spec_l01Src_points.sk2.D → Option R) (kx : XD spec_l01Src_points.xs2 → Option R) : roundK (spec_l01Src_points.cfg N) N (nthLoop (fnBody Try.f13) 0) spec_l01Src_points.sk2 spec_l01Src_points.xs2 d kn kx = spec_l01Src_points.l2 N d kn kx := by kernel_rfl
theorem spec_l01Src_points.i2 (N : Nat) : LoopsOk Try.prog (spec_l01Src_points.cfg N) (nthLoop (fnBody Try.f13) 0) := loopsL (l := []) (by kernel_rfl) trivial
theorem spec_l01Src_points.o2 (N : Nat) : LoopOk Try.prog (nthLoop (fnBody Try.f13) 0) (loopCon N spec_l01Src_points.sk2 spec_l01Src_points.xs2 (fun {R} => spec_l01Src_points.l2 (R := R) N)) := loop_ok (g := spec_l01Src_points.cfg N) tys_ok (spec_l01Src_points.cons N) mixed (spec_l01Src_points.i2 N) (fun d kn kx => spec_l01Src_points.h2 N d kn kx)
theorem spec_l01Src_points.ls (N : Nat) : LoopsOk Try.prog (spec_l01Src_points.cfg N) (fnBody Try.f13) := loopsL (l := [nthLoop (fnBody Try.f13) 0]) (by kernel_rfl) ⟨loopOne (L0 := loopCon N spec_l01Src_points.sk2 spec_l01Src_points.xs2 (fun {R} => spec_l01Src_points.l2 (R := R) N)) (id := 2) (by kernel_rfl) (by kernel_rfl) (spec_l01Src_points.o2 N), trivial⟩
theorem spec_l01Src_points.q2 {R R' : Type} {N n : Nat} {d} {k} {g : R → Option R'} : bindF (loopP (spec_l01Src_points.l2 N) n d k) g = loopP (spec_l01Src_points.l2 N) n d fun e => bindF (k e) g := bindF_loopP (fun d kn kx => by simp only [spec_l01Src_points.l2, bindF_ifB, bindF_bindO, bindF_pure, bindF_none, bindF_onSum]) n d k
theorem spec_l01Src_points.b (N : Nat) (x0 : den (.pair (.sl 5 (.int .u8)) (.pair (.int .i64) (.pair (.int .u64) (.pair (.int .i64) .unit))))) (x1 : den (.int .i64)) : body (spec_l01Src_points.cfg N) N Try.f13 [.one, .one] [.io, .v] [(false, (.own .imm))] [⟨(.pair (.sl 5 (.int .u8)) (.pair (.int .i64) (.pair (.int .u64) (.pair (.int .i64) .unit)))), .imm, x0⟩, ⟨(.int .i64), .imm, x1⟩] (fun r i => some (r, i)) = bindO (spec_l01Src_points N x0 x1) fun r => some ([⟨(.sl 2 (.int .i64)), (.own .imm), r.1⟩], [⟨(.pair (.sl 5 (.int .u8)) (.pair (.int .i64) (.pair (.int .u64) (.pair (.int .i64) .unit)))), .imm, r.2⟩]) := by
  show _ = bindF _ _
  conv => rhs; simp only [spec_l01Src_points, bindF_ifB, bindF_bindO, bindF_pure, bindF_none, bindF_onSum, spec_l01Src_points.q2]
  kernel_rfl
theorem spec_l01Src_points.ok (N : Nat) : ConOk Try.prog 13 [.one, .one] (spec_l01Src_points.con N) := by
  refine conOk_mk (g := spec_l01Src_points.cfg N) (N := N) (res := [(false, (.own .imm))]) tys_ok (spec_l01Src_points.cons N) mixed Try.func13 (spec_l01Src_points.ls N) rfl rfl ?_
  intro ds R k y h
  cases ds with
  | nil => exact none_some h
  | cons d0 ds =>
  cases ds with
  | nil => exact none_some h
  | cons d1 ds =>
  cases ds with
  | cons _ _ => exact none_some h
  | nil =>
  have h0 : (castDm (.pair (.sl 5 (.int .u8)) (.pair (.int .i64) (.pair (.int .u64) (.pair (.int .i64) .unit)))) .imm d0 fun x0 => castDm (.int .i64) .imm d1 fun x1 => bindO (spec_l01Src_points N x0 x1) fun r => k [⟨(.sl 2 (.int .i64)), (.own .imm), r.1⟩] [⟨(.pair (.sl 5 (.int .u8)) (.pair (.int .i64) (.pair (.int .u64) (.pair (.int .i64) .unit)))), .imm, r.2⟩]) = some y := h
  clear h
  obtain ⟨x0, rfl, h1⟩ := castDm_eq h0
  obtain ⟨x1, rfl, h2⟩ := castDm_eq h1
  exact con_fin (spec_l01Src_points.b N x0 x1) h2
theorem spec_l01Src_points.det (N : Nat) : ConDet (spec_l01Src_points.con N) := by
  intro ds R k y h
  cases ds with
  | nil => exact none_some h
  | cons d0 ds =>
  cases ds with
  | nil => exact none_some h
  | cons d1 ds =>
  cases ds with
  | cons _ _ => exact none_some h
  | nil =>
  have h0 : (castDm (.pair (.sl 5 (.int .u8)) (.pair (.int .i64) (.pair (.int .u64) (.pair (.int .i64) .unit)))) .imm d0 fun x0 => castDm (.int .i64) .imm d1 fun x1 => bindO (spec_l01Src_points N x0 x1) fun r => k [⟨(.sl 2 (.int .i64)), (.own .imm), r.1⟩] [⟨(.pair (.sl 5 (.int .u8)) (.pair (.int .i64) (.pair (.int .u64) (.pair (.int .i64) .unit)))), .imm, r.2⟩]) = some y := h
  clear h
  obtain ⟨x0, rfl, h1⟩ := castDm_eq h0
  obtain ⟨x1, rfl, h2⟩ := castDm_eq h1
  obtain ⟨r, e, h⟩ := bindO_some h2
  refine ⟨_, _, h, fun k' => ?_⟩
  show (castDm (.pair (.sl 5 (.int .u8)) (.pair (.int .i64) (.pair (.int .u64) (.pair (.int .i64) .unit)))) .imm (⟨(.pair (.sl 5 (.int .u8)) (.pair (.int .i64) (.pair (.int .u64) (.pair (.int .i64) .unit)))), .imm, x0⟩ : Dy) fun x0 => castDm (.int .i64) .imm (⟨(.int .i64), .imm, x1⟩ : Dy) fun x1 => bindO (spec_l01Src_points N x0 x1) fun r => k' [⟨(.sl 2 (.int .i64)), (.own .imm), r.1⟩] [⟨(.pair (.sl 5 (.int .u8)) (.pair (.int .i64) (.pair (.int .u64) (.pair (.int .i64) .unit)))), .imm, r.2⟩]) = _
  simp only [castDm_self]
  rw [e]
  rfl
noncomputable def spec_l01Src_one.con (N : Nat) : Con := { modes := [.io, .v], ptrs := [false], fn := fun ds k => match ds with | [d0, d1] => castDm (.pair (.sl 5 (.int .u8)) (.pair (.int .i64) (.pair (.int .u64) (.pair (.int .i64) .unit)))) .imm d0 fun x0 => castDm (.int .i64) .imm d1 fun x1 => bindO (spec_l01Src_one N x0 x1) fun r => k [⟨.bool, .imm, r.1⟩] [⟨(.pair (.sl 5 (.int .u8)) (.pair (.int .i64) (.pair (.int .u64) (.pair (.int .i64) .unit)))), .imm, r.2⟩] | _ => none }
noncomputable def spec_l01Src_one.cfg (N : Nat) : Cfg := { ty := tys, keep := [7], flt := [], elm := [(22, (.own .imm)), (23, (.own .imm)), (24, (.pr (.own .imm) .imm)), (25, (.pr (.own .imm) .imm)), (26, (.own (.own .imm))), (29, (.own (.pr (.own .imm) .imm))), (30, (.pr (.own (.pr (.own .imm) .imm)) (.pr (.own (.pr (.own .imm) .imm)) .imm))), (31, (.pr (.own (.pr (.own .imm) .imm)) (.pr (.own (.pr (.own .imm) .imm)) .imm))), (32, (.pr (.pr (.own (.pr (.own .imm) .imm)) (.pr (.own (.pr (.own .imm) .imm)) .imm)) (.pr (.pr (.own .imm) .imm) .imm))), (33, (.pr (.pr (.own (.pr (.own .imm) .imm)) (.pr (.own (.pr (.own .imm) .imm)) .imm)) (.pr (.pr (.own .imm) .imm) .imm))), (44, (.pr (.own .imm) .imm)), (45, (.pr (.own .imm) .imm)), (52, (.pr (.pr (.own .imm) .imm) (.pr (.own .imm) .imm))), (53, (.pr (.pr (.own .imm) .imm) (.pr (.own .imm) .imm)))], live := [], ord := [], con := [((12, [.one, .one]), spec_l01Src_n.con N)], loops := [], joins := [] }
theorem spec_l01Src_one.cons (N : Nat) : ConsOk Try.prog (spec_l01Src_one.cfg N).con := (consOk_cons (hb12) (spec_l01Src_n.ok N) (spec_l01Src_n.det N) consOk_nil)
theorem spec_l01Src_one.ls (N : Nat) : LoopsOk Try.prog (spec_l01Src_one.cfg N) (fnBody Try.f14) := loopsL (l := []) (by kernel_rfl) trivial
theorem spec_l01Src_one.b (N : Nat) (x0 : den (.pair (.sl 5 (.int .u8)) (.pair (.int .i64) (.pair (.int .u64) (.pair (.int .i64) .unit))))) (x1 : den (.int .i64)) : body (spec_l01Src_one.cfg N) N Try.f14 [.one, .one] [.io, .v] [(false, .imm)] [⟨(.pair (.sl 5 (.int .u8)) (.pair (.int .i64) (.pair (.int .u64) (.pair (.int .i64) .unit)))), .imm, x0⟩, ⟨(.int .i64), .imm, x1⟩] (fun r i => some (r, i)) = bindO (spec_l01Src_one N x0 x1) fun r => some ([⟨.bool, .imm, r.1⟩], [⟨(.pair (.sl 5 (.int .u8)) (.pair (.int .i64) (.pair (.int .u64) (.pair (.int .i64) .unit)))), .imm, r.2⟩]) := by
  show _ = bindF _ _
  conv => rhs; simp only [spec_l01Src_one, bindF_ifB, bindF_bindO, bindF_pure, bindF_none, bindF_onSum]
  kernel_rfl
theorem spec_l01Src_one.ok (N : Nat) : ConOk Try.prog 14 [.one, .one] (spec_l01Src_one.con N) := by
  refine conOk_mk (g := spec_l01Src_one.cfg N) (N := N) (res := [(false, .imm)]) tys_ok (spec_l01Src_one.cons N) mixed Try.func14 (spec_l01Src_one.ls N) rfl rfl ?_
  intro ds R k y h
  cases ds with
  | nil => exact none_some h
  | cons d0 ds =>
  cases ds with
  | nil => exact none_some h
  | cons d1 ds =>
  cases ds with
  | cons _ _ => exact none_some h
  | nil =>
  have h0 : (castDm (.pair (.sl 5 (.int .u8)) (.pair (.int .i64) (.pair (.int .u64) (.pair (.int .i64) .unit)))) .imm d0 fun x0 => castDm (.int .i64) .imm d1 fun x1 => bindO (spec_l01Src_one N x0 x1) fun r => k [⟨.bool, .imm, r.1⟩] [⟨(.pair (.sl 5 (.int .u8)) (.pair (.int .i64) (.pair (.int .u64) (.pair (.int .i64) .unit)))), .imm, r.2⟩]) = some y := h
  clear h
  obtain ⟨x0, rfl, h1⟩ := castDm_eq h0
  obtain ⟨x1, rfl, h2⟩ := castDm_eq h1
  exact con_fin (spec_l01Src_one.b N x0 x1) h2
theorem spec_l01Src_one.det (N : Nat) : ConDet (spec_l01Src_one.con N) := by
  intro ds R k y h
  cases ds with
  | nil => exact none_some h
  | cons d0 ds =>
  cases ds with
  | nil => exact none_some h
  | cons d1 ds =>
  cases ds with
  | cons _ _ => exact none_some h
  | nil =>
  have h0 : (castDm (.pair (.sl 5 (.int .u8)) (.pair (.int .i64) (.pair (.int .u64) (.pair (.int .i64) .unit)))) .imm d0 fun x0 => castDm (.int .i64) .imm d1 fun x1 => bindO (spec_l01Src_one N x0 x1) fun r => k [⟨.bool, .imm, r.1⟩] [⟨(.pair (.sl 5 (.int .u8)) (.pair (.int .i64) (.pair (.int .u64) (.pair (.int .i64) .unit)))), .imm, r.2⟩]) = some y := h
  clear h
  obtain ⟨x0, rfl, h1⟩ := castDm_eq h0
  obtain ⟨x1, rfl, h2⟩ := castDm_eq h1
  obtain ⟨r, e, h⟩ := bindO_some h2
  refine ⟨_, _, h, fun k' => ?_⟩
  show (castDm (.pair (.sl 5 (.int .u8)) (.pair (.int .i64) (.pair (.int .u64) (.pair (.int .i64) .unit)))) .imm (⟨(.pair (.sl 5 (.int .u8)) (.pair (.int .i64) (.pair (.int .u64) (.pair (.int .i64) .unit)))), .imm, x0⟩ : Dy) fun x0 => castDm (.int .i64) .imm (⟨(.int .i64), .imm, x1⟩ : Dy) fun x1 => bindO (spec_l01Src_one N x0 x1) fun r => k' [⟨.bool, .imm, r.1⟩] [⟨(.pair (.sl 5 (.int .u8)) (.pair (.int .i64) (.pair (.int .u64) (.pair (.int .i64) .unit)))), .imm, r.2⟩]) = _
  simp only [castDm_self]
  rw [e]
  rfl
noncomputable def spec_l01Src_l02Buf.con (N : Nat) : Con := { modes := [.io], ptrs := [false], fn := fun ds k => match ds with | [d0] => castDm (.pair (.sl 5 (.int .u8)) (.pair (.int .i64) (.pair (.int .u64) (.pair (.int .i64) .unit)))) .imm d0 fun x0 => bindO (spec_l01Src_l02Buf N x0) fun r => k [⟨(.pair (.sl 2 (.int .i64)) (.pair (.int .i64) (.pair (.int .i64) .unit))), (.pr (.own .imm) .imm), r.1⟩] [⟨(.pair (.sl 5 (.int .u8)) (.pair (.int .i64) (.pair (.int .u64) (.pair (.int .i64) .unit)))), .imm, r.2⟩] | _ => none }
noncomputable def spec_l01Src_l02Buf.cfg (N : Nat) : Cfg := { ty := tys, keep := [13, 14, 17, 20, 22, 30, 35, 38, 40, 52, 62], flt := [], elm := [(22, (.own .imm)), (23, (.own .imm)), (24, (.pr (.own .imm) .imm)), (25, (.pr (.own .imm) .imm)), (26, (.own (.own .imm))), (29, (.own (.pr (.own .imm) .imm))), (30, (.pr (.own (.pr (.own .imm) .imm)) (.pr (.own (.pr (.own .imm) .imm)) .imm))), (31, (.pr (.own (.pr (.own .imm) .imm)) (.pr (.own (.pr (.own .imm) .imm)) .imm))), (32, (.pr (.pr (.own (.pr (.own .imm) .imm)) (.pr (.own (.pr (.own .imm) .imm)) .imm)) (.pr (.pr (.own .imm) .imm) .imm))), (33, (.pr (.pr (.own (.pr (.own .imm) .imm)) (.pr (.own (.pr (.own .imm) .imm)) .imm)) (.pr (.pr (.own .imm) .imm) .imm))), (44, (.pr (.own .imm) .imm)), (45, (.pr (.own .imm) .imm)), (52, (.pr (.pr (.own .imm) .imm) (.pr (.own .imm) .imm))), (53, (.pr (.pr (.own .imm) .imm) (.pr (.own .imm) .imm)))], live := [], ord := [], con := [((12, [.one, .one]), spec_l01Src_n.con N), ((13, [.one, .one]), spec_l01Src_points.con N), ((14, [.one, .one]), spec_l01Src_one.con N)], loops := [], joins := [] }
theorem spec_l01Src_l02Buf.cons (N : Nat) : ConsOk Try.prog (spec_l01Src_l02Buf.cfg N).con := (consOk_cons (hb12) (spec_l01Src_n.ok N) (spec_l01Src_n.det N) (consOk_cons (hb13) (spec_l01Src_points.ok N) (spec_l01Src_points.det N) (consOk_cons (hb14) (spec_l01Src_one.ok N) (spec_l01Src_one.det N) consOk_nil)))
theorem spec_l01Src_l02Buf.ls (N : Nat) : LoopsOk Try.prog (spec_l01Src_l02Buf.cfg N) (fnBody Try.f11) := loopsL (l := []) (by kernel_rfl) trivial
theorem spec_l01Src_l02Buf.b (N : Nat) (x0 : den (.pair (.sl 5 (.int .u8)) (.pair (.int .i64) (.pair (.int .u64) (.pair (.int .i64) .unit))))) : body (spec_l01Src_l02Buf.cfg N) N Try.f11 [.one] [.io] [(false, (.pr (.own .imm) .imm))] [⟨(.pair (.sl 5 (.int .u8)) (.pair (.int .i64) (.pair (.int .u64) (.pair (.int .i64) .unit)))), .imm, x0⟩] (fun r i => some (r, i)) = bindO (spec_l01Src_l02Buf N x0) fun r => some ([⟨(.pair (.sl 2 (.int .i64)) (.pair (.int .i64) (.pair (.int .i64) .unit))), (.pr (.own .imm) .imm), r.1⟩], [⟨(.pair (.sl 5 (.int .u8)) (.pair (.int .i64) (.pair (.int .u64) (.pair (.int .i64) .unit)))), .imm, r.2⟩]) := by
  show _ = bindF _ _
  conv => rhs; simp only [spec_l01Src_l02Buf, bindF_ifB, bindF_bindO, bindF_pure, bindF_none, bindF_onSum]
  kernel_rfl
theorem spec_l01Src_l02Buf.ok (N : Nat) : ConOk Try.prog 11 [.one] (spec_l01Src_l02Buf.con N) := by
  refine conOk_mk (g := spec_l01Src_l02Buf.cfg N) (N := N) (res := [(false, (.pr (.own .imm) .imm))]) tys_ok (spec_l01Src_l02Buf.cons N) mixed Try.func11 (spec_l01Src_l02Buf.ls N) rfl rfl ?_
  intro ds R k y h
  cases ds with
  | nil => exact none_some h
  | cons d0 ds =>
  cases ds with
  | cons _ _ => exact none_some h
  | nil =>
  have h0 : (castDm (.pair (.sl 5 (.int .u8)) (.pair (.int .i64) (.pair (.int .u64) (.pair (.int .i64) .unit)))) .imm d0 fun x0 => bindO (spec_l01Src_l02Buf N x0) fun r => k [⟨(.pair (.sl 2 (.int .i64)) (.pair (.int .i64) (.pair (.int .i64) .unit))), (.pr (.own .imm) .imm), r.1⟩] [⟨(.pair (.sl 5 (.int .u8)) (.pair (.int .i64) (.pair (.int .u64) (.pair (.int .i64) .unit)))), .imm, r.2⟩]) = some y := h
  clear h
  obtain ⟨x0, rfl, h1⟩ := castDm_eq h0
  exact con_fin (spec_l01Src_l02Buf.b N x0) h1
theorem spec_l01Src_l02Buf.det (N : Nat) : ConDet (spec_l01Src_l02Buf.con N) := by
  intro ds R k y h
  cases ds with
  | nil => exact none_some h
  | cons d0 ds =>
  cases ds with
  | cons _ _ => exact none_some h
  | nil =>
  have h0 : (castDm (.pair (.sl 5 (.int .u8)) (.pair (.int .i64) (.pair (.int .u64) (.pair (.int .i64) .unit)))) .imm d0 fun x0 => bindO (spec_l01Src_l02Buf N x0) fun r => k [⟨(.pair (.sl 2 (.int .i64)) (.pair (.int .i64) (.pair (.int .i64) .unit))), (.pr (.own .imm) .imm), r.1⟩] [⟨(.pair (.sl 5 (.int .u8)) (.pair (.int .i64) (.pair (.int .u64) (.pair (.int .i64) .unit)))), .imm, r.2⟩]) = some y := h
  clear h
  obtain ⟨x0, rfl, h1⟩ := castDm_eq h0
  obtain ⟨r, e, h⟩ := bindO_some h1
  refine ⟨_, _, h, fun k' => ?_⟩
  show (castDm (.pair (.sl 5 (.int .u8)) (.pair (.int .i64) (.pair (.int .u64) (.pair (.int .i64) .unit)))) .imm (⟨(.pair (.sl 5 (.int .u8)) (.pair (.int .i64) (.pair (.int .u64) (.pair (.int .i64) .unit)))), .imm, x0⟩ : Dy) fun x0 => bindO (spec_l01Src_l02Buf N x0) fun r => k' [⟨(.pair (.sl 2 (.int .i64)) (.pair (.int .i64) (.pair (.int .i64) .unit))), (.pr (.own .imm) .imm), r.1⟩] [⟨(.pair (.sl 5 (.int .u8)) (.pair (.int .i64) (.pair (.int .u64) (.pair (.int .i64) .unit)))), .imm, r.2⟩]) = _
  simp only [castDm_self]
  rw [e]
  rfl
def spec_DrawUndoRun.sk5 : Skel := ⟨[.dead, .dead, .ptr 50 [], .dead, .ptr 51 [], .ptr 52 [], .ov 53 [], .pv (.int .i64), .dead, .dead, .dead, .dead, .dead, .dead, .dead, .dead, .dead, .dead, .dead, .dead, .dead, .dead, .dead, .dead, .dead, .dead, .dead, .dead, .dead, .dead, .dead, .dead, .dead, .dead, .dead, .dead, .dead, .dead, .dead, .dead, .dead, .dead, .dead, .dead, .dead, .dead], [⟨50, (.pair (.sl 2 (.int .i64)) (.pair (.int .i64) (.pair (.int .i64) .unit))), (.pr (.own .imm) .imm), true, false⟩, ⟨51, (.pair (.sl 5 (.int .u8)) (.pair (.int .i64) (.pair (.int .u64) (.pair (.int .i64) .unit)))), .imm, true, false⟩, ⟨52, (.pair (.sl 2 (.int .i64)) (.pair (.int .i64) (.pair (.int .i64) .unit))), (.pr (.own .imm) .imm), true, false⟩, ⟨53, (.sl 23 (.sl 2 (.int .i64))), (.own (.own .imm)), false, false⟩]⟩
def spec_DrawUndoRun.xs5 : List XS := [⟨.exit 0, [2, 4, 5, 6], ⟨[.dead, .dead, .ptr 50 [], .dead, .ptr 51 [], .ptr 52 [], .ov 53 [], .dead, .dead, .dead, .dead, .dead, .dead, .dead, .dead, .dead, .dead, .dead, .dead, .dead, .dead, .dead, .dead, .dead, .dead, .dead, .dead, .dead, .dead, .dead, .dead, .dead, .dead, .dead, .dead, .dead, .dead, .dead, .dead, .dead, .dead, .dead, .dead, .dead, .dead, .dead], [⟨50, (.pair (.sl 2 (.int .i64)) (.pair (.int .i64) (.pair (.int .i64) .unit))), (.pr (.own .imm) .imm), true, false⟩, ⟨51, (.pair (.sl 5 (.int .u8)) (.pair (.int .i64) (.pair (.int .u64) (.pair (.int .i64) .unit)))), .imm, true, false⟩, ⟨52, (.pair (.sl 2 (.int .i64)) (.pair (.int .i64) (.pair (.int .i64) .unit))), (.pr (.own .imm) .imm), true, false⟩, ⟨53, (.sl 23 (.sl 2 (.int .i64))), (.own (.own .imm)), false, false⟩]⟩⟩]
noncomputable def spec_DrawUndoRun.con (N : Nat) : Con := { modes := [.v], ptrs := [false, false], fn := fun ds k => match ds with | [d0] => castDm (.sl 5 (.int .u8)) .imm d0 fun x0 => bindO (spec_DrawUndoRun N x0) fun r => k [⟨(.pair (.sl 2 (.int .i64)) (.pair (.int .i64) (.pair (.int .i64) .unit))), (.pr (.own .imm) .imm), r.1⟩, ⟨(.sl 23 (.sl 2 (.int .i64))), (.own (.own .imm)), r.2⟩] [] | _ => none }
noncomputable def spec_DrawUndoRun.cfg (N : Nat) : Cfg := { ty := tys, keep := [10, 12, 21, 28, 30, 32, 39], flt := [], elm := [(22, (.own .imm)), (23, (.own .imm)), (24, (.pr (.own .imm) .imm)), (25, (.pr (.own .imm) .imm)), (26, (.own (.own .imm))), (29, (.own (.pr (.own .imm) .imm))), (30, (.pr (.own (.pr (.own .imm) .imm)) (.pr (.own (.pr (.own .imm) .imm)) .imm))), (31, (.pr (.own (.pr (.own .imm) .imm)) (.pr (.own (.pr (.own .imm) .imm)) .imm))), (32, (.pr (.pr (.own (.pr (.own .imm) .imm)) (.pr (.own (.pr (.own .imm) .imm)) .imm)) (.pr (.pr (.own .imm) .imm) .imm))), (33, (.pr (.pr (.own (.pr (.own .imm) .imm)) (.pr (.own (.pr (.own .imm) .imm)) .imm)) (.pr (.pr (.own .imm) .imm) .imm))), (44, (.pr (.own .imm) .imm)), (45, (.pr (.own .imm) .imm)), (52, (.pr (.pr (.own .imm) .imm) (.pr (.own .imm) .imm))), (53, (.pr (.pr (.own .imm) .imm) (.pr (.own .imm) .imm)))], live := [(5, [2, 4, 5, 6, 7])], ord := [], con := [((10, [.one]), spec_l01Source.con N), ((11, [.one]), spec_l01Src_l02Buf.con N), ((12, [.one, .one]), spec_l01Src_n.con N), ((13, [.one, .one]), spec_l01Src_points.con N), ((14, [.one, .one]), spec_l01Src_one.con N)], loops := [(5, loopCon N spec_DrawUndoRun.sk5 spec_DrawUndoRun.xs5 (fun {R} => spec_DrawUndoRun.l5 (R := R) N))], joins := [(6, [⟨.normal, [2, 4, 5, 6, 7], ⟨[.dead, .dead, .ptr 50 [], .dead, .ptr 51 [], .ptr 52 [], .ov 53 [], .pv (.int .i64), .dead, .dead, .dead, .dead, .dead, .dead, .dead, .dead, .dead, .dead, .dead, .dead, .dead, .dead, .dead, .dead, .dead, .dead, .dead, .dead, .dead, .dead, .dead, .dead, .dead, .dead, .dead, .dead, .dead, .dead, .dead, .dead, .dead, .dead, .dead, .dead, .dead, .dead], [⟨50, (.pair (.sl 2 (.int .i64)) (.pair (.int .i64) (.pair (.int .i64) .unit))), (.pr (.own .imm) .imm), true, false⟩, ⟨51, (.pair (.sl 5 (.int .u8)) (.pair (.int .i64) (.pair (.int .u64) (.pair (.int .i64) .unit)))), .imm, true, false⟩, ⟨52, (.pair (.sl 2 (.int .i64)) (.pair (.int .i64) (.pair (.int .i64) .unit))), (.pr (.own .imm) .imm), true, false⟩, ⟨53, (.sl 23 (.sl 2 (.int .i64))), (.own (.own .imm)), false, false⟩]⟩⟩])] }
theorem spec_DrawUndoRun.cons (N : Nat) : ConsOk Try.prog (spec_DrawUndoRun.cfg N).con := (consOk_cons (hb10) (spec_l01Source.ok N) (spec_l01Source.det N) (consOk_cons (hb11) (spec_l01Src_l02Buf.ok N) (spec_l01Src_l02Buf.det N) (consOk_cons (hb12) (spec_l01Src_n.ok N) (spec_l01Src_n.det N) (consOk_cons (hb13) (spec_l01Src_points.ok N) (spec_l01Src_points.det N) (consOk_cons (hb14) (spec_l01Src_one.ok N) (spec_l01Src_one.det N) consOk_nil)))))
theorem spec_DrawUndoRun.h5 {R : Type} (N : Nat) (d : spec_DrawUndoRun.sk5.D) (kn : spec_DrawUndoRun.sk5.D → Option R) (kx : XD spec_DrawUndoRun.xs5 → Option R) : roundK (spec_DrawUndoRun.cfg N) N (nthLoop (fnBody Try.f4) 0) spec_DrawUndoRun.sk5 spec_DrawUndoRun.xs5 d kn kx = spec_DrawUndoRun.l5 N d kn kx := by kernel_rfl
theorem spec_DrawUndoRun.i5 (N : Nat) : LoopsOk Try.prog (spec_DrawUndoRun.cfg N) (nthLoop (fnBody Try.f4) 0) := loopsL (l := []) (by kernel_rfl) trivial
theorem spec_DrawUndoRun.o5 (N : Nat) : LoopOk Try.prog (nthLoop (fnBody Try.f4) 0) (loopCon N spec_DrawUndoRun.sk5 spec_DrawUndoRun.xs5 (fun {R} => spec_DrawUndoRun.l5 (R := R) N)) := loop_ok (g := spec_DrawUndoRun.cfg N) tys_ok (spec_DrawUndoRun.cons N) mixed (spec_DrawUndoRun.i5 N) (fun d kn kx => spec_DrawUndoRun.h5 N d kn kx)
theorem spec_DrawUndoRun.ls (N : Nat) : LoopsOk Try.prog (spec_DrawUndoRun.cfg N) (fnBody Try.f4) := loopsL (l := [nthLoop (fnBody Try.f4) 0]) (by kernel_rfl) ⟨loopOne (L0 := loopCon N spec_DrawUndoRun.sk5 spec_DrawUndoRun.xs5 (fun {R} => spec_DrawUndoRun.l5 (R := R) N)) (id := 5) (by kernel_rfl) (by kernel_rfl) (spec_DrawUndoRun.o5 N), trivial⟩
theorem spec_DrawUndoRun.q5 {R R' : Type} {N n : Nat} {d} {k} {g : R → Option R'} : bindF (loopP (spec_DrawUndoRun.l5 N) n d k) g = loopP (spec_DrawUndoRun.l5 N) n d fun e => bindF (k e) g := bindF_loopP (fun d kn kx => by simp only [spec_DrawUndoRun.l5, bindF_ifB, bindF_bindO, bindF_pure, bindF_none, bindF_onSum]) n d k
theorem spec_DrawUndoRun.b (N : Nat) (x0 : den (.sl 5 (.int .u8))) : body (spec_DrawUndoRun.cfg N) N Try.f4 [.one] [.v] [(false, (.pr (.own .imm) .imm)), (false, (.own (.own .imm)))] [⟨(.sl 5 (.int .u8)), .imm, x0⟩] (fun r i => some (r, i)) = bindO (spec_DrawUndoRun N x0) fun r => some ([⟨(.pair (.sl 2 (.int .i64)) (.pair (.int .i64) (.pair (.int .i64) .unit))), (.pr (.own .imm) .imm), r.1⟩, ⟨(.sl 23 (.sl 2 (.int .i64))), (.own (.own .imm)), r.2⟩], []) := by
  show _ = bindF _ _
  conv => rhs; simp only [spec_DrawUndoRun, bindF_ifB, bindF_bindO, bindF_pure, bindF_none, bindF_onSum, spec_DrawUndoRun.q5]
  kernel_rfl
theorem spec_DrawUndoRun.ok (N : Nat) : ConOk Try.prog 4 [.one] (spec_DrawUndoRun.con N) := by
  refine conOk_mk (g := spec_DrawUndoRun.cfg N) (N := N) (res := [(false, (.pr (.own .imm) .imm)), (false, (.own (.own .imm)))]) tys_ok (spec_DrawUndoRun.cons N) mixed Try.func4 (spec_DrawUndoRun.ls N) rfl rfl ?_
  intro ds R k y h
  cases ds with
  | nil => exact none_some h
  | cons d0 ds =>
  cases ds with
  | cons _ _ => exact none_some h
  | nil =>
  have h0 : (castDm (.sl 5 (.int .u8)) .imm d0 fun x0 => bindO (spec_DrawUndoRun N x0) fun r => k [⟨(.pair (.sl 2 (.int .i64)) (.pair (.int .i64) (.pair (.int .i64) .unit))), (.pr (.own .imm) .imm), r.1⟩, ⟨(.sl 23 (.sl 2 (.int .i64))), (.own (.own .imm)), r.2⟩] []) = some y := h
  clear h
  obtain ⟨x0, rfl, h1⟩ := castDm_eq h0
  exact con_fin (spec_DrawUndoRun.b N x0) h1
theorem spec_DrawUndoRun.det (N : Nat) : ConDet (spec_DrawUndoRun.con N) := by
  intro ds R k y h
  cases ds with
  | nil => exact none_some h
  | cons d0 ds =>
  cases ds with
  | cons _ _ => exact none_some h
  | nil =>
  have h0 : (castDm (.sl 5 (.int .u8)) .imm d0 fun x0 => bindO (spec_DrawUndoRun N x0) fun r => k [⟨(.pair (.sl 2 (.int .i64)) (.pair (.int .i64) (.pair (.int .i64) .unit))), (.pr (.own .imm) .imm), r.1⟩, ⟨(.sl 23 (.sl 2 (.int .i64))), (.own (.own .imm)), r.2⟩] []) = some y := h
  clear h
  obtain ⟨x0, rfl, h1⟩ := castDm_eq h0
  obtain ⟨r, e, h⟩ := bindO_some h1
  refine ⟨_, _, h, fun k' => ?_⟩
  show (castDm (.sl 5 (.int .u8)) .imm (⟨(.sl 5 (.int .u8)), .imm, x0⟩ : Dy) fun x0 => bindO (spec_DrawUndoRun N x0) fun r => k' [⟨(.pair (.sl 2 (.int .i64)) (.pair (.int .i64) (.pair (.int .i64) .unit))), (.pr (.own .imm) .imm), r.1⟩, ⟨(.sl 23 (.sl 2 (.int .i64))), (.own (.own .imm)), r.2⟩] []) = _
  simp only [castDm_self]
  rw [e]
  rfl
noncomputable def spec_l01Point.con (N : Nat) : Con := { modes := [.v], ptrs := [false], fn := fun ds k => match ds with | [d0] => castDm (.int .i64) .imm d0 fun x0 => bindO (spec_l01Point N x0) fun r => k [⟨.bool, .imm, r⟩] [] | _ => none }
noncomputable def spec_l01Point.cfg (N : Nat) : Cfg := { ty := tys, keep := [], flt := [], elm := [(22, (.own .imm)), (23, (.own .imm)), (24, (.pr (.own .imm) .imm)), (25, (.pr (.own .imm) .imm)), (26, (.own (.own .imm))), (29, (.own (.pr (.own .imm) .imm))), (30, (.pr (.own (.pr (.own .imm) .imm)) (.pr (.own (.pr (.own .imm) .imm)) .imm))), (31, (.pr (.own (.pr (.own .imm) .imm)) (.pr (.own (.pr (.own .imm) .imm)) .imm))), (32, (.pr (.pr (.own (.pr (.own .imm) .imm)) (.pr (.own (.pr (.own .imm) .imm)) .imm)) (.pr (.pr (.own .imm) .imm) .imm))), (33, (.pr (.pr (.own (.pr (.own .imm) .imm)) (.pr (.own (.pr (.own .imm) .imm)) .imm)) (.pr (.pr (.own .imm) .imm) .imm))), (44, (.pr (.own .imm) .imm)), (45, (.pr (.own .imm) .imm)), (52, (.pr (.pr (.own .imm) .imm) (.pr (.own .imm) .imm))), (53, (.pr (.pr (.own .imm) .imm) (.pr (.own .imm) .imm)))], live := [], ord := [], con := [], loops := [], joins := [] }
theorem spec_l01Point.cons (N : Nat) : ConsOk Try.prog (spec_l01Point.cfg N).con := consOk_nil
theorem spec_l01Point.ls (N : Nat) : LoopsOk Try.prog (spec_l01Point.cfg N) (fnBody Try.f32) := loopsL (l := []) (by kernel_rfl) trivial
theorem spec_l01Point.b (N : Nat) (x0 : den (.int .i64)) : body (spec_l01Point.cfg N) N Try.f32 [.one] [.v] [(false, .imm)] [⟨(.int .i64), .imm, x0⟩] (fun r i => some (r, i)) = bindO (spec_l01Point N x0) fun r => some ([⟨.bool, .imm, r⟩], []) := by
  show _ = bindF _ _
  conv => rhs; simp only [spec_l01Point, bindF_ifB, bindF_bindO, bindF_pure, bindF_none, bindF_onSum]
  kernel_rfl
theorem spec_l01Point.ok (N : Nat) : ConOk Try.prog 32 [.one] (spec_l01Point.con N) := by
  refine conOk_mk (g := spec_l01Point.cfg N) (N := N) (res := [(false, .imm)]) tys_ok (spec_l01Point.cons N) mixed Try.func32 (spec_l01Point.ls N) rfl rfl ?_
  intro ds R k y h
  cases ds with
  | nil => exact none_some h
  | cons d0 ds =>
  cases ds with
  | cons _ _ => exact none_some h
  | nil =>
  have h0 : (castDm (.int .i64) .imm d0 fun x0 => bindO (spec_l01Point N x0) fun r => k [⟨.bool, .imm, r⟩] []) = some y := h
  clear h
  obtain ⟨x0, rfl, h1⟩ := castDm_eq h0
  exact con_fin (spec_l01Point.b N x0) h1
theorem spec_l01Point.det (N : Nat) : ConDet (spec_l01Point.con N) := by
  intro ds R k y h
  cases ds with
  | nil => exact none_some h
  | cons d0 ds =>
  cases ds with
  | cons _ _ => exact none_some h
  | nil =>
  have h0 : (castDm (.int .i64) .imm d0 fun x0 => bindO (spec_l01Point N x0) fun r => k [⟨.bool, .imm, r⟩] []) = some y := h
  clear h
  obtain ⟨x0, rfl, h1⟩ := castDm_eq h0
  obtain ⟨r, e, h⟩ := bindO_some h1
  refine ⟨_, _, h, fun k' => ?_⟩
  show (castDm (.int .i64) .imm (⟨(.int .i64), .imm, x0⟩ : Dy) fun x0 => bindO (spec_l01Point N x0) fun r => k' [⟨.bool, .imm, r⟩] []) = _
  simp only [castDm_self]
  rw [e]
  rfl
def spec_PointsRight.sk4 : Skel := ⟨[.pv (.sl 2 (.int .i64)), .dead, .dead, .pv (.int .i64), .dead, .dead, .dead, .dead, .dead, .dead, .dead, .dead, .dead, .dead, .dead, .dead, .dead, .dead, .dead], []⟩
def spec_PointsRight.xs4 : List XS := [⟨.exit 0, [], ⟨[.dead, .dead, .dead, .dead, .dead, .dead, .dead, .dead, .dead, .dead, .dead, .dead, .dead, .dead, .dead, .dead, .dead, .dead, .dead], []⟩⟩, ⟨.ret, [2], ⟨[.dead, .dead, .pv .bool, .dead, .dead, .dead, .dead, .dead, .dead, .dead, .dead, .dead, .dead, .dead, .dead, .dead, .dead, .dead, .dead], []⟩⟩]
noncomputable def spec_PointsRight.con (N : Nat) : Con := { modes := [.v], ptrs := [false], fn := fun ds k => match ds with | [d0] => castDm (.sl 2 (.int .i64)) .imm d0 fun x0 => bindO (spec_PointsRight N x0) fun r => k [⟨.bool, .imm, r⟩] [] | _ => none }
noncomputable def spec_PointsRight.cfg (N : Nat) : Cfg := { ty := tys, keep := [17], flt := [], elm := [(22, (.own .imm)), (23, (.own .imm)), (24, (.pr (.own .imm) .imm)), (25, (.pr (.own .imm) .imm)), (26, (.own (.own .imm))), (29, (.own (.pr (.own .imm) .imm))), (30, (.pr (.own (.pr (.own .imm) .imm)) (.pr (.own (.pr (.own .imm) .imm)) .imm))), (31, (.pr (.own (.pr (.own .imm) .imm)) (.pr (.own (.pr (.own .imm) .imm)) .imm))), (32, (.pr (.pr (.own (.pr (.own .imm) .imm)) (.pr (.own (.pr (.own .imm) .imm)) .imm)) (.pr (.pr (.own .imm) .imm) .imm))), (33, (.pr (.pr (.own (.pr (.own .imm) .imm)) (.pr (.own (.pr (.own .imm) .imm)) .imm)) (.pr (.pr (.own .imm) .imm) .imm))), (44, (.pr (.own .imm) .imm)), (45, (.pr (.own .imm) .imm)), (52, (.pr (.pr (.own .imm) .imm) (.pr (.own .imm) .imm))), (53, (.pr (.pr (.own .imm) .imm) (.pr (.own .imm) .imm)))], live := [(4, [0, 3])], ord := [], con := [((32, [.one]), spec_l01Point.con N)], loops := [(4, loopCon N spec_PointsRight.sk4 spec_PointsRight.xs4 (fun {R} => spec_PointsRight.l4 (R := R) N))], joins := [] }
theorem spec_PointsRight.cons (N : Nat) : ConsOk Try.prog (spec_PointsRight.cfg N).con := (consOk_cons (hb32) (spec_l01Point.ok N) (spec_l01Point.det N) consOk_nil)
theorem spec_PointsRight.h4 {R : Type} (N : Nat) (d : spec_PointsRight.sk4.D) (kn : spec_PointsRight.sk4.D → Option R) (kx : XD spec_PointsRight.xs4 → Option R) : roundK (spec_PointsRight.cfg N) N (nthLoop (fnBody Try.f16) 0) spec_PointsRight.sk4 spec_PointsRight.xs4 d kn kx = spec_PointsRight.l4 N d kn kx := by kernel_rfl
theorem spec_PointsRight.i4 (N : Nat) : LoopsOk Try.prog (spec_PointsRight.cfg N) (nthLoop (fnBody Try.f16) 0) := loopsL (l := []) (by kernel_rfl) trivial
theorem spec_PointsRight.o4 (N : Nat) : LoopOk Try.prog (nthLoop (fnBody Try.f16) 0) (loopCon N spec_PointsRight.sk4 spec_PointsRight.xs4 (fun {R} => spec_PointsRight.l4 (R := R) N)) := loop_ok (g := spec_PointsRight.cfg N) tys_ok (spec_PointsRight.cons N) mixed (spec_PointsRight.i4 N) (fun d kn kx => spec_PointsRight.h4 N d kn kx)
theorem spec_PointsRight.ls (N : Nat) : LoopsOk Try.prog (spec_PointsRight.cfg N) (fnBody Try.f16) := loopsL (l := [nthLoop (fnBody Try.f16) 0]) (by kernel_rfl) ⟨loopOne (L0 := loopCon N spec_PointsRight.sk4 spec_PointsRight.xs4 (fun {R} => spec_PointsRight.l4 (R := R) N)) (id := 4) (by kernel_rfl) (by kernel_rfl) (spec_PointsRight.o4 N), trivial⟩
theorem spec_PointsRight.q4 {R R' : Type} {N n : Nat} {d} {k} {g : R → Option R'} : bindF (loopP (spec_PointsRight.l4 N) n d k) g = loopP (spec_PointsRight.l4 N) n d fun e => bindF (k e) g := bindF_loopP (fun d kn kx => by simp only [spec_PointsRight.l4, bindF_ifB, bindF_bindO, bindF_pure, bindF_none, bindF_onSum]) n d k
theorem spec_PointsRight.b (N : Nat) (x0 : den (.sl 2 (.int .i64))) : body (spec_PointsRight.cfg N) N Try.f16 [.one] [.v] [(false, .imm)] [⟨(.sl 2 (.int .i64)), .imm, x0⟩] (fun r i => some (r, i)) = bindO (spec_PointsRight N x0) fun r => some ([⟨.bool, .imm, r⟩], []) := by
  show _ = bindF _ _
  conv => rhs; simp only [spec_PointsRight, bindF_ifB, bindF_bindO, bindF_pure, bindF_none, bindF_onSum, spec_PointsRight.q4]
  kernel_rfl
theorem spec_PointsRight.ok (N : Nat) : ConOk Try.prog 16 [.one] (spec_PointsRight.con N) := by
  refine conOk_mk (g := spec_PointsRight.cfg N) (N := N) (res := [(false, .imm)]) tys_ok (spec_PointsRight.cons N) mixed Try.func16 (spec_PointsRight.ls N) rfl rfl ?_
  intro ds R k y h
  cases ds with
  | nil => exact none_some h
  | cons d0 ds =>
  cases ds with
  | cons _ _ => exact none_some h
  | nil =>
  have h0 : (castDm (.sl 2 (.int .i64)) .imm d0 fun x0 => bindO (spec_PointsRight N x0) fun r => k [⟨.bool, .imm, r⟩] []) = some y := h
  clear h
  obtain ⟨x0, rfl, h1⟩ := castDm_eq h0
  exact con_fin (spec_PointsRight.b N x0) h1
theorem spec_PointsRight.det (N : Nat) : ConDet (spec_PointsRight.con N) := by
  intro ds R k y h
  cases ds with
  | nil => exact none_some h
  | cons d0 ds =>
  cases ds with
  | cons _ _ => exact none_some h
  | nil =>
  have h0 : (castDm (.sl 2 (.int .i64)) .imm d0 fun x0 => bindO (spec_PointsRight N x0) fun r => k [⟨.bool, .imm, r⟩] []) = some y := h
  clear h
  obtain ⟨x0, rfl, h1⟩ := castDm_eq h0
  obtain ⟨r, e, h⟩ := bindO_some h1
  refine ⟨_, _, h, fun k' => ?_⟩
  show (castDm (.sl 2 (.int .i64)) .imm (⟨(.sl 2 (.int .i64)), .imm, x0⟩ : Dy) fun x0 => bindO (spec_PointsRight N x0) fun r => k' [⟨.bool, .imm, r⟩] []) = _
  simp only [castDm_self]
  rw [e]
  rfl
noncomputable def spec_BufRight.con (N : Nat) : Con := { modes := [.v], ptrs := [false], fn := fun ds k => match ds with | [d0] => castDm (.pair (.sl 2 (.int .i64)) (.pair (.int .i64) (.pair (.int .i64) .unit))) .imm d0 fun x0 => bindO (spec_BufRight N x0) fun r => k [⟨.bool, .imm, r⟩] [] | _ => none }
noncomputable def spec_BufRight.cfg (N : Nat) : Cfg := { ty := tys, keep := [9], flt := [], elm := [(22, (.own .imm)), (23, (.own .imm)), (24, (.pr (.own .imm) .imm)), (25, (.pr (.own .imm) .imm)), (26, (.own (.own .imm))), (29, (.own (.pr (.own .imm) .imm))), (30, (.pr (.own (.pr (.own .imm) .imm)) (.pr (.own (.pr (.own .imm) .imm)) .imm))), (31, (.pr (.own (.pr (.own .imm) .imm)) (.pr (.own (.pr (.own .imm) .imm)) .imm))), (32, (.pr (.pr (.own (.pr (.own .imm) .imm)) (.pr (.own (.pr (.own .imm) .imm)) .imm)) (.pr (.pr (.own .imm) .imm) .imm))), (33, (.pr (.pr (.own (.pr (.own .imm) .imm)) (.pr (.own (.pr (.own .imm) .imm)) .imm)) (.pr (.pr (.own .imm) .imm) .imm))), (44, (.pr (.own .imm) .imm)), (45, (.pr (.own .imm) .imm)), (52, (.pr (.pr (.own .imm) .imm) (.pr (.own .imm) .imm))), (53, (.pr (.pr (.own .imm) .imm) (.pr (.own .imm) .imm)))], live := [], ord := [], con := [((16, [.one]), spec_PointsRight.con N)], loops := [], joins := [] }
theorem spec_BufRight.cons (N : Nat) : ConsOk Try.prog (spec_BufRight.cfg N).con := (consOk_cons (hb16) (spec_PointsRight.ok N) (spec_PointsRight.det N) consOk_nil)
theorem spec_BufRight.ls (N : Nat) : LoopsOk Try.prog (spec_BufRight.cfg N) (fnBody Try.f15) := loopsL (l := []) (by kernel_rfl) trivial
theorem spec_BufRight.b (N : Nat) (x0 : den (.pair (.sl 2 (.int .i64)) (.pair (.int .i64) (.pair (.int .i64) .unit)))) : body (spec_BufRight.cfg N) N Try.f15 [.one] [.v] [(false, .imm)] [⟨(.pair (.sl 2 (.int .i64)) (.pair (.int .i64) (.pair (.int .i64) .unit))), .imm, x0⟩] (fun r i => some (r, i)) = bindO (spec_BufRight N x0) fun r => some ([⟨.bool, .imm, r⟩], []) := by
  show _ = bindF _ _
  conv => rhs; simp only [spec_BufRight, bindF_ifB, bindF_bindO, bindF_pure, bindF_none, bindF_onSum]
  kernel_rfl
theorem spec_BufRight.ok (N : Nat) : ConOk Try.prog 15 [.one] (spec_BufRight.con N) := by
  refine conOk_mk (g := spec_BufRight.cfg N) (N := N) (res := [(false, .imm)]) tys_ok (spec_BufRight.cons N) mixed Try.func15 (spec_BufRight.ls N) rfl rfl ?_
  intro ds R k y h
  cases ds with
  | nil => exact none_some h
  | cons d0 ds =>
  cases ds with
  | cons _ _ => exact none_some h
  | nil =>
  have h0 : (castDm (.pair (.sl 2 (.int .i64)) (.pair (.int .i64) (.pair (.int .i64) .unit))) .imm d0 fun x0 => bindO (spec_BufRight N x0) fun r => k [⟨.bool, .imm, r⟩] []) = some y := h
  clear h
  obtain ⟨x0, rfl, h1⟩ := castDm_eq h0
  exact con_fin (spec_BufRight.b N x0) h1
theorem spec_BufRight.det (N : Nat) : ConDet (spec_BufRight.con N) := by
  intro ds R k y h
  cases ds with
  | nil => exact none_some h
  | cons d0 ds =>
  cases ds with
  | cons _ _ => exact none_some h
  | nil =>
  have h0 : (castDm (.pair (.sl 2 (.int .i64)) (.pair (.int .i64) (.pair (.int .i64) .unit))) .imm d0 fun x0 => bindO (spec_BufRight N x0) fun r => k [⟨.bool, .imm, r⟩] []) = some y := h
  clear h
  obtain ⟨x0, rfl, h1⟩ := castDm_eq h0
  obtain ⟨r, e, h⟩ := bindO_some h1
  refine ⟨_, _, h, fun k' => ?_⟩
  show (castDm (.pair (.sl 2 (.int .i64)) (.pair (.int .i64) (.pair (.int .i64) .unit))) .imm (⟨(.pair (.sl 2 (.int .i64)) (.pair (.int .i64) (.pair (.int .i64) .unit))), .imm, x0⟩ : Dy) fun x0 => bindO (spec_BufRight N x0) fun r => k' [⟨.bool, .imm, r⟩] []) = _
  simp only [castDm_self]
  rw [e]
  rfl
noncomputable def spec_l01Copy.con (N : Nat) : Con := { modes := [.v], ptrs := [false], fn := fun ds k => match ds with | [d0] => castDm (.sl 2 (.int .i64)) .imm d0 fun x0 => bindO (spec_l01Copy N x0) fun r => k [⟨(.sl 2 (.int .i64)), (.own .imm), r⟩] [] | _ => none }
noncomputable def spec_l01Copy.cfg (N : Nat) : Cfg := { ty := tys, keep := [], flt := [], elm := [(22, (.own .imm)), (23, (.own .imm)), (24, (.pr (.own .imm) .imm)), (25, (.pr (.own .imm) .imm)), (26, (.own (.own .imm))), (29, (.own (.pr (.own .imm) .imm))), (30, (.pr (.own (.pr (.own .imm) .imm)) (.pr (.own (.pr (.own .imm) .imm)) .imm))), (31, (.pr (.own (.pr (.own .imm) .imm)) (.pr (.own (.pr (.own .imm) .imm)) .imm))), (32, (.pr (.pr (.own (.pr (.own .imm) .imm)) (.pr (.own (.pr (.own .imm) .imm)) .imm)) (.pr (.pr (.own .imm) .imm) .imm))), (33, (.pr (.pr (.own (.pr (.own .imm) .imm)) (.pr (.own (.pr (.own .imm) .imm)) .imm)) (.pr (.pr (.own .imm) .imm) .imm))), (44, (.pr (.own .imm) .imm)), (45, (.pr (.own .imm) .imm)), (52, (.pr (.pr (.own .imm) .imm) (.pr (.own .imm) .imm))), (53, (.pr (.pr (.own .imm) .imm) (.pr (.own .imm) .imm)))], live := [], ord := [], con := [], loops := [], joins := [] }
theorem spec_l01Copy.cons (N : Nat) : ConsOk Try.prog (spec_l01Copy.cfg N).con := consOk_nil
theorem spec_l01Copy.ls (N : Nat) : LoopsOk Try.prog (spec_l01Copy.cfg N) (fnBody Try.f33) := loopsL (l := []) (by kernel_rfl) trivial
theorem spec_l01Copy.b (N : Nat) (x0 : den (.sl 2 (.int .i64))) : body (spec_l01Copy.cfg N) N Try.f33 [.one] [.v] [(false, (.own .imm))] [⟨(.sl 2 (.int .i64)), .imm, x0⟩] (fun r i => some (r, i)) = bindO (spec_l01Copy N x0) fun r => some ([⟨(.sl 2 (.int .i64)), (.own .imm), r⟩], []) := by
  show _ = bindF _ _
  conv => rhs; simp only [spec_l01Copy, bindF_ifB, bindF_bindO, bindF_pure, bindF_none, bindF_onSum]
  kernel_rfl
theorem spec_l01Copy.ok (N : Nat) : ConOk Try.prog 33 [.one] (spec_l01Copy.con N) := by
  refine conOk_mk (g := spec_l01Copy.cfg N) (N := N) (res := [(false, (.own .imm))]) tys_ok (spec_l01Copy.cons N) mixed Try.func33 (spec_l01Copy.ls N) rfl rfl ?_
  intro ds R k y h
  cases ds with
  | nil => exact none_some h
  | cons d0 ds =>
  cases ds with
  | cons _ _ => exact none_some h
  | nil =>
  have h0 : (castDm (.sl 2 (.int .i64)) .imm d0 fun x0 => bindO (spec_l01Copy N x0) fun r => k [⟨(.sl 2 (.int .i64)), (.own .imm), r⟩] []) = some y := h
  clear h
  obtain ⟨x0, rfl, h1⟩ := castDm_eq h0
  exact con_fin (spec_l01Copy.b N x0) h1
theorem spec_l01Copy.det (N : Nat) : ConDet (spec_l01Copy.con N) := by
  intro ds R k y h
  cases ds with
  | nil => exact none_some h
  | cons d0 ds =>
  cases ds with
  | cons _ _ => exact none_some h
  | nil =>
  have h0 : (castDm (.sl 2 (.int .i64)) .imm d0 fun x0 => bindO (spec_l01Copy N x0) fun r => k [⟨(.sl 2 (.int .i64)), (.own .imm), r⟩] []) = some y := h
  clear h
  obtain ⟨x0, rfl, h1⟩ := castDm_eq h0
  obtain ⟨r, e, h⟩ := bindO_some h1
  refine ⟨_, _, h, fun k' => ?_⟩
  show (castDm (.sl 2 (.int .i64)) .imm (⟨(.sl 2 (.int .i64)), .imm, x0⟩ : Dy) fun x0 => bindO (spec_l01Copy N x0) fun r => k' [⟨(.sl 2 (.int .i64)), (.own .imm), r⟩] []) = _
  simp only [castDm_self]
  rw [e]
  rfl
noncomputable def spec_l02Copy.con (N : Nat) : Con := { modes := [.v], ptrs := [false], fn := fun ds k => match ds with | [d0] => castDm (.pair (.sl 2 (.int .i64)) (.pair (.int .i64) (.pair (.int .i64) .unit))) .imm d0 fun x0 => bindO (spec_l02Copy N x0) fun r => k [⟨(.pair (.sl 2 (.int .i64)) (.pair (.int .i64) (.pair (.int .i64) .unit))), (.pr (.own .imm) .imm), r⟩] [] | _ => none }
noncomputable def spec_l02Copy.cfg (N : Nat) : Cfg := { ty := tys, keep := [5], flt := [], elm := [(22, (.own .imm)), (23, (.own .imm)), (24, (.pr (.own .imm) .imm)), (25, (.pr (.own .imm) .imm)), (26, (.own (.own .imm))), (29, (.own (.pr (.own .imm) .imm))), (30, (.pr (.own (.pr (.own .imm) .imm)) (.pr (.own (.pr (.own .imm) .imm)) .imm))), (31, (.pr (.own (.pr (.own .imm) .imm)) (.pr (.own (.pr (.own .imm) .imm)) .imm))), (32, (.pr (.pr (.own (.pr (.own .imm) .imm)) (.pr (.own (.pr (.own .imm) .imm)) .imm)) (.pr (.pr (.own .imm) .imm) .imm))), (33, (.pr (.pr (.own (.pr (.own .imm) .imm)) (.pr (.own (.pr (.own .imm) .imm)) .imm)) (.pr (.pr (.own .imm) .imm) .imm))), (44, (.pr (.own .imm) .imm)), (45, (.pr (.own .imm) .imm)), (52, (.pr (.pr (.own .imm) .imm) (.pr (.own .imm) .imm))), (53, (.pr (.pr (.own .imm) .imm) (.pr (.own .imm) .imm)))], live := [], ord := [], con := [((33, [.one]), spec_l01Copy.con N)], loops := [], joins := [] }
theorem spec_l02Copy.cons (N : Nat) : ConsOk Try.prog (spec_l02Copy.cfg N).con := (consOk_cons (hb33) (spec_l01Copy.ok N) (spec_l01Copy.det N) consOk_nil)
theorem spec_l02Copy.ls (N : Nat) : LoopsOk Try.prog (spec_l02Copy.cfg N) (fnBody Try.f17) := loopsL (l := []) (by kernel_rfl) trivial
theorem spec_l02Copy.b (N : Nat) (x0 : den (.pair (.sl 2 (.int .i64)) (.pair (.int .i64) (.pair (.int .i64) .unit)))) : body (spec_l02Copy.cfg N) N Try.f17 [.one] [.v] [(false, (.pr (.own .imm) .imm))] [⟨(.pair (.sl 2 (.int .i64)) (.pair (.int .i64) (.pair (.int .i64) .unit))), .imm, x0⟩] (fun r i => some (r, i)) = bindO (spec_l02Copy N x0) fun r => some ([⟨(.pair (.sl 2 (.int .i64)) (.pair (.int .i64) (.pair (.int .i64) .unit))), (.pr (.own .imm) .imm), r⟩], []) := by
  show _ = bindF _ _
  conv => rhs; simp only [spec_l02Copy, bindF_ifB, bindF_bindO, bindF_pure, bindF_none, bindF_onSum]
  kernel_rfl
theorem spec_l02Copy.ok (N : Nat) : ConOk Try.prog 17 [.one] (spec_l02Copy.con N) := by
  refine conOk_mk (g := spec_l02Copy.cfg N) (N := N) (res := [(false, (.pr (.own .imm) .imm))]) tys_ok (spec_l02Copy.cons N) mixed Try.func17 (spec_l02Copy.ls N) rfl rfl ?_
  intro ds R k y h
  cases ds with
  | nil => exact none_some h
  | cons d0 ds =>
  cases ds with
  | cons _ _ => exact none_some h
  | nil =>
  have h0 : (castDm (.pair (.sl 2 (.int .i64)) (.pair (.int .i64) (.pair (.int .i64) .unit))) .imm d0 fun x0 => bindO (spec_l02Copy N x0) fun r => k [⟨(.pair (.sl 2 (.int .i64)) (.pair (.int .i64) (.pair (.int .i64) .unit))), (.pr (.own .imm) .imm), r⟩] []) = some y := h
  clear h
  obtain ⟨x0, rfl, h1⟩ := castDm_eq h0
  exact con_fin (spec_l02Copy.b N x0) h1
theorem spec_l02Copy.det (N : Nat) : ConDet (spec_l02Copy.con N) := by
  intro ds R k y h
  cases ds with
  | nil => exact none_some h
  | cons d0 ds =>
  cases ds with
  | cons _ _ => exact none_some h
  | nil =>
  have h0 : (castDm (.pair (.sl 2 (.int .i64)) (.pair (.int .i64) (.pair (.int .i64) .unit))) .imm d0 fun x0 => bindO (spec_l02Copy N x0) fun r => k [⟨(.pair (.sl 2 (.int .i64)) (.pair (.int .i64) (.pair (.int .i64) .unit))), (.pr (.own .imm) .imm), r⟩] []) = some y := h
  clear h
  obtain ⟨x0, rfl, h1⟩ := castDm_eq h0
  obtain ⟨r, e, h⟩ := bindO_some h1
  refine ⟨_, _, h, fun k' => ?_⟩
  show (castDm (.pair (.sl 2 (.int .i64)) (.pair (.int .i64) (.pair (.int .i64) .unit))) .imm (⟨(.pair (.sl 2 (.int .i64)) (.pair (.int .i64) (.pair (.int .i64) .unit))), .imm, x0⟩ : Dy) fun x0 => bindO (spec_l02Copy N x0) fun r => k' [⟨(.pair (.sl 2 (.int .i64)) (.pair (.int .i64) (.pair (.int .i64) .unit))), (.pr (.own .imm) .imm), r⟩] []) = _
  simp only [castDm_self]
  rw [e]
  rfl
end Go.AE.F
