/- The printed functions are what the program comes to: contracts. -/
import Derived.Test.YtbhhlcmjlhpehaaLYankF1
import Derived.Test.YtbhhlcmjlhpehaaLYankT
namespace Go.AE.F
open Go.AE Go.Proofs
set_option maxRecDepth 100000
def spec_l01Source.sk3 : Skel := ⟨[.pv (.sl 5 (.int .u8)), .dead, .dead, .ptr 50 [], .pv (.int .i64), .dead, .dead, .dead, .dead, .dead, .dead, .dead, .dead, .dead, .dead, .dead, .dead, .dead, .dead, .dead, .dead, .dead, .dead, .dead, .dead, .dead, .dead, .dead, .dead, .dead, .dead, .dead, .dead, .dead, .dead, .dead, .dead, .dead, .dead, .dead, .dead, .dead, .dead, .dead, .dead, .dead, .dead], [⟨50, (.pair (.sl 5 (.int .u8)) (.pair (.int .i64) (.pair (.int .u64) (.pair (.int .i64) .unit)))), .imm, true, false⟩]⟩
def spec_l01Source.xs3 : List XS := [⟨.exit 0, [0, 3], ⟨[.pv (.sl 5 (.int .u8)), .dead, .dead, .ptr 50 [], .dead, .dead, .dead, .dead, .dead, .dead, .dead, .dead, .dead, .dead, .dead, .dead, .dead, .dead, .dead, .dead, .dead, .dead, .dead, .dead, .dead, .dead, .dead, .dead, .dead, .dead, .dead, .dead, .dead, .dead, .dead, .dead, .dead, .dead, .dead, .dead, .dead, .dead, .dead, .dead, .dead, .dead, .dead], [⟨50, (.pair (.sl 5 (.int .u8)) (.pair (.int .i64) (.pair (.int .u64) (.pair (.int .i64) .unit)))), .imm, true, false⟩]⟩⟩]
noncomputable def spec_l01Source.con (N : Nat) : Con := { modes := [.v], ptrs := [true], fn := fun ds k => match ds with | [d0] => castDm (.sl 5 (.int .u8)) .imm d0 fun x0 => bindO (spec_l01Source N x0) fun r => k [⟨(.pair (.sl 5 (.int .u8)) (.pair (.int .i64) (.pair (.int .u64) (.pair (.int .i64) .unit)))), .imm, r⟩] [] | _ => none }
noncomputable def spec_l01Source.cfg (N : Nat) : Cfg := { ty := tys, keep := [], flt := [], elm := [(22, (.own .imm)), (23, (.own (.own .imm))), (24, (.pr (.own (.own .imm)) .imm)), (25, (.pr (.own (.own .imm)) .imm)), (26, (.own .imm)), (27, (.pr (.own .imm) .imm)), (28, (.pr (.own .imm) .imm)), (31, (.pr (.pr (.own .imm) .imm) .imm)), (32, (.pr (.pr (.own .imm) .imm) .imm)), (45, (.pr (.pr (.own .imm) .imm) (.pr (.own .imm) .imm))), (46, (.pr (.pr (.own .imm) .imm) (.pr (.own .imm) .imm))), (54, (.pr (.own .imm) .imm)), (55, (.pr (.own .imm) .imm))], live := [(3, [0, 3, 4, 13, 14])], ord := [(5, [0, 1, 2, 3, 4, 5, 6, 7, 8, 9, 10, 11, 12, 13, 14])], con := [], loops := [(3, loopCon N spec_l01Source.sk3 spec_l01Source.xs3 (fun {R} => spec_l01Source.l3 (R := R) N))], joins := [] }
theorem spec_l01Source.cons (N : Nat) : ConsOk Try.prog (spec_l01Source.cfg N).con := consOk_nil
theorem spec_l01Source.h3 {R : Type} (N : Nat) (d : spec_l01Source.sk3.D) (kn : spec_l01Source.sk3.D → Option R) (kx : XD spec_l01Source.xs3 → Option R) : roundK (spec_l01Source.cfg N) N (nthLoop (fnBody Try.f12) 0) spec_l01Source.sk3 spec_l01Source.xs3 d kn kx = spec_l01Source.l3 N d kn kx := by kernel_rfl
theorem spec_l01Source.i3 (N : Nat) : LoopsOk Try.prog (spec_l01Source.cfg N) (nthLoop (fnBody Try.f12) 0) := loopsL (l := []) (by kernel_rfl) trivial
theorem spec_l01Source.o3 (N : Nat) : LoopOk Try.prog (nthLoop (fnBody Try.f12) 0) (loopCon N spec_l01Source.sk3 spec_l01Source.xs3 (fun {R} => spec_l01Source.l3 (R := R) N)) := loop_ok (g := spec_l01Source.cfg N) tys_ok (spec_l01Source.cons N) mixed (spec_l01Source.i3 N) (fun d kn kx => spec_l01Source.h3 N d kn kx)
theorem spec_l01Source.ls (N : Nat) : LoopsOk Try.prog (spec_l01Source.cfg N) (fnBody Try.f12) := loopsL (l := [nthLoop (fnBody Try.f12) 0]) (by kernel_rfl) ⟨loopOne (L0 := loopCon N spec_l01Source.sk3 spec_l01Source.xs3 (fun {R} => spec_l01Source.l3 (R := R) N)) (id := 3) (by kernel_rfl) (by kernel_rfl) (spec_l01Source.o3 N), trivial⟩
theorem spec_l01Source.q3 {R R' : Type} {N n : Nat} {d} {k} {g : R → Option R'} : bindF (loopP (spec_l01Source.l3 N) n d k) g = loopP (spec_l01Source.l3 N) n d fun e => bindF (k e) g := bindF_loopP (fun d kn kx => by simp only [spec_l01Source.l3, bindF_ifB, bindF_bindO, bindF_pure, bindF_none, bindF_onSum]) n d k
theorem spec_l01Source.b (N : Nat) (x0 : den (.sl 5 (.int .u8))) : body (spec_l01Source.cfg N) N Try.f12 [.one] [.v] [(true, .imm)] [⟨(.sl 5 (.int .u8)), .imm, x0⟩] (fun r i => some (r, i)) = bindO (spec_l01Source N x0) fun r => some ([⟨(.pair (.sl 5 (.int .u8)) (.pair (.int .i64) (.pair (.int .u64) (.pair (.int .i64) .unit)))), .imm, r⟩], []) := by
  show _ = bindF _ _
  conv => rhs; simp only [spec_l01Source, bindF_ifB, bindF_bindO, bindF_pure, bindF_none, bindF_onSum, spec_l01Source.q3]
  kernel_rfl
theorem spec_l01Source.ok (N : Nat) : ConOk Try.prog 12 [.one] (spec_l01Source.con N) := by
  refine conOk_mk (g := spec_l01Source.cfg N) (N := N) (res := [(true, .imm)]) tys_ok (spec_l01Source.cons N) mixed Try.func12 (spec_l01Source.ls N) rfl rfl ?_
  intro ds R k y h
  cases ds with
  | nil => exact none_some h
  | cons d0 ds =>
  cases ds with
  | cons _ _ => exact none_some h
  | nil =>
  have h0 : (castDm (.sl 5 (.int .u8)) .imm d0 fun x0 => bindO (spec_l01Source N x0) fun r => k [⟨(.pair (.sl 5 (.int .u8)) (.pair (.int .i64) (.pair (.int .u64) (.pair (.int .i64) .unit)))), .imm, r⟩] []) = some y := h
  clear h
  obtain ⟨x0, rfl, h1⟩ := castDm_eq h0
  exact con_fin (spec_l01Source.b N x0) h1
theorem spec_l01Source.det (N : Nat) : ConDet (spec_l01Source.con N) := by
  intro ds R k y h
  cases ds with
  | nil => exact none_some h
  | cons d0 ds =>
  cases ds with
  | cons _ _ => exact none_some h
  | nil =>
  have h0 : (castDm (.sl 5 (.int .u8)) .imm d0 fun x0 => bindO (spec_l01Source N x0) fun r => k [⟨(.pair (.sl 5 (.int .u8)) (.pair (.int .i64) (.pair (.int .u64) (.pair (.int .i64) .unit)))), .imm, r⟩] []) = some y := h
  clear h
  obtain ⟨x0, rfl, h1⟩ := castDm_eq h0
  obtain ⟨r, e, h⟩ := bindO_some h1
  refine ⟨_, _, h, fun k' => ?_⟩
  show (castDm (.sl 5 (.int .u8)) .imm (⟨(.sl 5 (.int .u8)), .imm, x0⟩ : Dy) fun x0 => bindO (spec_l01Source N x0) fun r => k' [⟨(.pair (.sl 5 (.int .u8)) (.pair (.int .i64) (.pair (.int .u64) (.pair (.int .i64) .unit)))), .imm, r⟩] []) = _
  simp only [castDm_self]
  rw [e]
  rfl
noncomputable def spec_l01Src_n.con (N : Nat) : Con := { modes := [.io, .v], ptrs := [false], fn := fun ds k => match ds with | [d0, d1] => castDm (.pair (.sl 5 (.int .u8)) (.pair (.int .i64) (.pair (.int .u64) (.pair (.int .i64) .unit)))) .imm d0 fun x0 => castDm (.int .i64) .imm d1 fun x1 => bindO (spec_l01Src_n N x0 x1) fun r => k [⟨(.int .i64), .imm, r.1⟩] [⟨(.pair (.sl 5 (.int .u8)) (.pair (.int .i64) (.pair (.int .u64) (.pair (.int .i64) .unit)))), .imm, r.2⟩] | _ => none }
noncomputable def spec_l01Src_n.cfg (N : Nat) : Cfg := { ty := tys, keep := [], flt := [], elm := [(22, (.own .imm)), (23, (.own (.own .imm))), (24, (.pr (.own (.own .imm)) .imm)), (25, (.pr (.own (.own .imm)) .imm)), (26, (.own .imm)), (27, (.pr (.own .imm) .imm)), (28, (.pr (.own .imm) .imm)), (31, (.pr (.pr (.own .imm) .imm) .imm)), (32, (.pr (.pr (.own .imm) .imm) .imm)), (45, (.pr (.pr (.own .imm) .imm) (.pr (.own .imm) .imm))), (46, (.pr (.pr (.own .imm) .imm) (.pr (.own .imm) .imm))), (54, (.pr (.own .imm) .imm)), (55, (.pr (.own .imm) .imm))], live := [], ord := [(4, [0, 1, 2, 3, 4, 5, 6, 7, 8, 9]), (5, [0, 1, 2, 3, 4, 5, 6, 7, 8, 9, 10, 11]), (7, [0, 1, 2, 3, 4, 5, 6, 7, 8, 9, 10, 11, 12, 13]), (8, [0, 1, 2, 3, 4, 5, 6, 7, 8, 9, 10, 11, 12, 13]), (9, [0, 1, 2, 3, 4, 5, 6, 7, 8, 9, 10, 11, 12, 13])], con := [], loops := [], joins := [] }
theorem spec_l01Src_n.cons (N : Nat) : ConsOk Try.prog (spec_l01Src_n.cfg N).con := consOk_nil
theorem spec_l01Src_n.ls (N : Nat) : LoopsOk Try.prog (spec_l01Src_n.cfg N) (fnBody Try.f28) := loopsL (l := []) (by kernel_rfl) trivial
theorem spec_l01Src_n.b (N : Nat) (x0 : den (.pair (.sl 5 (.int .u8)) (.pair (.int .i64) (.pair (.int .u64) (.pair (.int .i64) .unit))))) (x1 : den (.int .i64)) : body (spec_l01Src_n.cfg N) N Try.f28 [.one, .one] [.io, .v] [(false, .imm)] [⟨(.pair (.sl 5 (.int .u8)) (.pair (.int .i64) (.pair (.int .u64) (.pair (.int .i64) .unit)))), .imm, x0⟩, ⟨(.int .i64), .imm, x1⟩] (fun r i => some (r, i)) = bindO (spec_l01Src_n N x0 x1) fun r => some ([⟨(.int .i64), .imm, r.1⟩], [⟨(.pair (.sl 5 (.int .u8)) (.pair (.int .i64) (.pair (.int .u64) (.pair (.int .i64) .unit)))), .imm, r.2⟩]) := by
  show _ = bindF _ _
  conv => rhs; simp only [spec_l01Src_n, bindF_ifB, bindF_bindO, bindF_pure, bindF_none, bindF_onSum]
  kernel_rfl
theorem spec_l01Src_n.ok (N : Nat) : ConOk Try.prog 28 [.one, .one] (spec_l01Src_n.con N) := by
  refine conOk_mk (g := spec_l01Src_n.cfg N) (N := N) (res := [(false, .imm)]) tys_ok (spec_l01Src_n.cons N) mixed Try.func28 (spec_l01Src_n.ls N) rfl rfl ?_
  intro ds R k y h
  cases ds with
  | nil => exact none_some h
  | cons d0 ds =>
  cases ds with
  | nil => exact none_some h
  | cons d1 ds =>
  cases ds with
  | cons _ _ => exact none_some h
  | nil =>
  have h0 : (castDm (.pair (.sl 5 (.int .u8)) (.pair (.int .i64) (.pair (.int .u64) (.pair (.int .i64) .unit)))) .imm d0 fun x0 => castDm (.int .i64) .imm d1 fun x1 => bindO (spec_l01Src_n N x0 x1) fun r => k [⟨(.int .i64), .imm, r.1⟩] [⟨(.pair (.sl 5 (.int .u8)) (.pair (.int .i64) (.pair (.int .u64) (.pair (.int .i64) .unit)))), .imm, r.2⟩]) = some y := h
  clear h
  obtain ⟨x0, rfl, h1⟩ := castDm_eq h0
  obtain ⟨x1, rfl, h2⟩ := castDm_eq h1
  exact con_fin (spec_l01Src_n.b N x0 x1) h2
theorem spec_l01Src_n.det (N : Nat) : ConDet (spec_l01Src_n.con N) := by
  intro ds R k y h
  cases ds with
  | nil => exact none_some h
  | cons d0 ds =>
  cases ds with
  | nil => exact none_some h
  | cons d1 ds =>
  cases ds with
  | cons _ _ => exact none_some h
  | nil =>
  have h0 : (castDm (.pair (.sl 5 (.int .u8)) (.pair (.int .i64) (.pair (.int .u64) (.pair (.int .i64) .unit)))) .imm d0 fun x0 => castDm (.int .i64) .imm d1 fun x1 => bindO (spec_l01Src_n N x0 x1) fun r => k [⟨(.int .i64), .imm, r.1⟩] [⟨(.pair (.sl 5 (.int .u8)) (.pair (.int .i64) (.pair (.int .u64) (.pair (.int .i64) .unit)))), .imm, r.2⟩]) = some y := h
  clear h
  obtain ⟨x0, rfl, h1⟩ := castDm_eq h0
  obtain ⟨x1, rfl, h2⟩ := castDm_eq h1
  obtain ⟨r, e, h⟩ := bindO_some h2
  refine ⟨_, _, h, fun k' => ?_⟩
  show (castDm (.pair (.sl 5 (.int .u8)) (.pair (.int .i64) (.pair (.int .u64) (.pair (.int .i64) .unit)))) .imm (⟨(.pair (.sl 5 (.int .u8)) (.pair (.int .i64) (.pair (.int .u64) (.pair (.int .i64) .unit)))), .imm, x0⟩ : Dy) fun x0 => castDm (.int .i64) .imm (⟨(.int .i64), .imm, x1⟩ : Dy) fun x1 => bindO (spec_l01Src_n N x0 x1) fun r => k' [⟨(.int .i64), .imm, r.1⟩] [⟨(.pair (.sl 5 (.int .u8)) (.pair (.int .i64) (.pair (.int .u64) (.pair (.int .i64) .unit)))), .imm, r.2⟩]) = _
  simp only [castDm_self]
  rw [e]
  rfl
noncomputable def spec_l01Src_one.con (N : Nat) : Con := { modes := [.io, .v], ptrs := [false], fn := fun ds k => match ds with | [d0, d1] => castDm (.pair (.sl 5 (.int .u8)) (.pair (.int .i64) (.pair (.int .u64) (.pair (.int .i64) .unit)))) .imm d0 fun x0 => castDm (.int .i64) .imm d1 fun x1 => bindO (spec_l01Src_one N x0 x1) fun r => k [⟨.bool, .imm, r.1⟩] [⟨(.pair (.sl 5 (.int .u8)) (.pair (.int .i64) (.pair (.int .u64) (.pair (.int .i64) .unit)))), .imm, r.2⟩] | _ => none }
noncomputable def spec_l01Src_one.cfg (N : Nat) : Cfg := { ty := tys, keep := [7], flt := [], elm := [(22, (.own .imm)), (23, (.own (.own .imm))), (24, (.pr (.own (.own .imm)) .imm)), (25, (.pr (.own (.own .imm)) .imm)), (26, (.own .imm)), (27, (.pr (.own .imm) .imm)), (28, (.pr (.own .imm) .imm)), (31, (.pr (.pr (.own .imm) .imm) .imm)), (32, (.pr (.pr (.own .imm) .imm) .imm)), (45, (.pr (.pr (.own .imm) .imm) (.pr (.own .imm) .imm))), (46, (.pr (.pr (.own .imm) .imm) (.pr (.own .imm) .imm))), (54, (.pr (.own .imm) .imm)), (55, (.pr (.own .imm) .imm))], live := [], ord := [], con := [((28, [.one, .one]), spec_l01Src_n.con N)], loops := [], joins := [] }
theorem spec_l01Src_one.cons (N : Nat) : ConsOk Try.prog (spec_l01Src_one.cfg N).con := (consOk_cons (hb28) (spec_l01Src_n.ok N) (spec_l01Src_n.det N) consOk_nil)
theorem spec_l01Src_one.ls (N : Nat) : LoopsOk Try.prog (spec_l01Src_one.cfg N) (fnBody Try.f29) := loopsL (l := []) (by kernel_rfl) trivial
theorem spec_l01Src_one.b (N : Nat) (x0 : den (.pair (.sl 5 (.int .u8)) (.pair (.int .i64) (.pair (.int .u64) (.pair (.int .i64) .unit))))) (x1 : den (.int .i64)) : body (spec_l01Src_one.cfg N) N Try.f29 [.one, .one] [.io, .v] [(false, .imm)] [⟨(.pair (.sl 5 (.int .u8)) (.pair (.int .i64) (.pair (.int .u64) (.pair (.int .i64) .unit)))), .imm, x0⟩, ⟨(.int .i64), .imm, x1⟩] (fun r i => some (r, i)) = bindO (spec_l01Src_one N x0 x1) fun r => some ([⟨.bool, .imm, r.1⟩], [⟨(.pair (.sl 5 (.int .u8)) (.pair (.int .i64) (.pair (.int .u64) (.pair (.int .i64) .unit)))), .imm, r.2⟩]) := by
  show _ = bindF _ _
  conv => rhs; simp only [spec_l01Src_one, bindF_ifB, bindF_bindO, bindF_pure, bindF_none, bindF_onSum]
  kernel_rfl
theorem spec_l01Src_one.ok (N : Nat) : ConOk Try.prog 29 [.one, .one] (spec_l01Src_one.con N) := by
  refine conOk_mk (g := spec_l01Src_one.cfg N) (N := N) (res := [(false, .imm)]) tys_ok (spec_l01Src_one.cons N) mixed Try.func29 (spec_l01Src_one.ls N) rfl rfl ?_
  intro ds R k y h
  cases ds with
  | nil => exact none_some h
  | cons d0 ds =>
  cases ds with
  | nil => exact none_some h
  | cons d1 ds =>
  cases ds with
  | cons _ _ => exact none_some h
  | nil =>
  have h0 : (castDm (.pair (.sl 5 (.int .u8)) (.pair (.int .i64) (.pair (.int .u64) (.pair (.int .i64) .unit)))) .imm d0 fun x0 => castDm (.int .i64) .imm d1 fun x1 => bindO (spec_l01Src_one N x0 x1) fun r => k [⟨.bool, .imm, r.1⟩] [⟨(.pair (.sl 5 (.int .u8)) (.pair (.int .i64) (.pair (.int .u64) (.pair (.int .i64) .unit)))), .imm, r.2⟩]) = some y := h
  clear h
  obtain ⟨x0, rfl, h1⟩ := castDm_eq h0
  obtain ⟨x1, rfl, h2⟩ := castDm_eq h1
  exact con_fin (spec_l01Src_one.b N x0 x1) h2
theorem spec_l01Src_one.det (N : Nat) : ConDet (spec_l01Src_one.con N) := by
  intro ds R k y h
  cases ds with
  | nil => exact none_some h
  | cons d0 ds =>
  cases ds with
  | nil => exact none_some h
  | cons d1 ds =>
  cases ds with
  | cons _ _ => exact none_some h
  | nil =>
  have h0 : (castDm (.pair (.sl 5 (.int .u8)) (.pair (.int .i64) (.pair (.int .u64) (.pair (.int .i64) .unit)))) .imm d0 fun x0 => castDm (.int .i64) .imm d1 fun x1 => bindO (spec_l01Src_one N x0 x1) fun r => k [⟨.bool, .imm, r.1⟩] [⟨(.pair (.sl 5 (.int .u8)) (.pair (.int .i64) (.pair (.int .u64) (.pair (.int .i64) .unit)))), .imm, r.2⟩]) = some y := h
  clear h
  obtain ⟨x0, rfl, h1⟩ := castDm_eq h0
  obtain ⟨x1, rfl, h2⟩ := castDm_eq h1
  obtain ⟨r, e, h⟩ := bindO_some h2
  refine ⟨_, _, h, fun k' => ?_⟩
  show (castDm (.pair (.sl 5 (.int .u8)) (.pair (.int .i64) (.pair (.int .u64) (.pair (.int .i64) .unit)))) .imm (⟨(.pair (.sl 5 (.int .u8)) (.pair (.int .i64) (.pair (.int .u64) (.pair (.int .i64) .unit)))), .imm, x0⟩ : Dy) fun x0 => castDm (.int .i64) .imm (⟨(.int .i64), .imm, x1⟩ : Dy) fun x1 => bindO (spec_l01Src_one N x0 x1) fun r => k' [⟨.bool, .imm, r.1⟩] [⟨(.pair (.sl 5 (.int .u8)) (.pair (.int .i64) (.pair (.int .u64) (.pair (.int .i64) .unit)))), .imm, r.2⟩]) = _
  simp only [castDm_self]
  rw [e]
  rfl
noncomputable def spec_l01Src_point.con (N : Nat) : Con := { modes := [.io], ptrs := [false], fn := fun ds k => match ds with | [d0] => castDm (.pair (.sl 5 (.int .u8)) (.pair (.int .i64) (.pair (.int .u64) (.pair (.int .i64) .unit)))) .imm d0 fun x0 => bindO (spec_l01Src_point N x0) fun r => k [⟨(.int .i64), .imm, r.1⟩] [⟨(.pair (.sl 5 (.int .u8)) (.pair (.int .i64) (.pair (.int .u64) (.pair (.int .i64) .unit)))), .imm, r.2⟩] | _ => none }
noncomputable def spec_l01Src_point.cfg (N : Nat) : Cfg := { ty := tys, keep := [4, 13, 20, 27, 34, 40, 43], flt := [], elm := [(22, (.own .imm)), (23, (.own (.own .imm))), (24, (.pr (.own (.own .imm)) .imm)), (25, (.pr (.own (.own .imm)) .imm)), (26, (.own .imm)), (27, (.pr (.own .imm) .imm)), (28, (.pr (.own .imm) .imm)), (31, (.pr (.pr (.own .imm) .imm) .imm)), (32, (.pr (.pr (.own .imm) .imm) .imm)), (45, (.pr (.pr (.own .imm) .imm) (.pr (.own .imm) .imm))), (46, (.pr (.pr (.own .imm) .imm) (.pr (.own .imm) .imm))), (54, (.pr (.own .imm) .imm)), (55, (.pr (.own .imm) .imm))], live := [], ord := [], con := [((28, [.one, .one]), spec_l01Src_n.con N)], loops := [], joins := [] }
theorem spec_l01Src_point.cons (N : Nat) : ConsOk Try.prog (spec_l01Src_point.cfg N).con := (consOk_cons (hb28) (spec_l01Src_n.ok N) (spec_l01Src_n.det N) consOk_nil)
theorem spec_l01Src_point.ls (N : Nat) : LoopsOk Try.prog (spec_l01Src_point.cfg N) (fnBody Try.f42) := loopsL (l := []) (by kernel_rfl) trivial
theorem spec_l01Src_point.b (N : Nat) (x0 : den (.pair (.sl 5 (.int .u8)) (.pair (.int .i64) (.pair (.int .u64) (.pair (.int .i64) .unit))))) : body (spec_l01Src_point.cfg N) N Try.f42 [.one] [.io] [(false, .imm)] [⟨(.pair (.sl 5 (.int .u8)) (.pair (.int .i64) (.pair (.int .u64) (.pair (.int .i64) .unit)))), .imm, x0⟩] (fun r i => some (r, i)) = bindO (spec_l01Src_point N x0) fun r => some ([⟨(.int .i64), .imm, r.1⟩], [⟨(.pair (.sl 5 (.int .u8)) (.pair (.int .i64) (.pair (.int .u64) (.pair (.int .i64) .unit)))), .imm, r.2⟩]) := by
  show _ = bindF _ _
  conv => rhs; simp only [spec_l01Src_point, bindF_ifB, bindF_bindO, bindF_pure, bindF_none, bindF_onSum]
  kernel_rfl
theorem spec_l01Src_point.ok (N : Nat) : ConOk Try.prog 42 [.one] (spec_l01Src_point.con N) := by
  refine conOk_mk (g := spec_l01Src_point.cfg N) (N := N) (res := [(false, .imm)]) tys_ok (spec_l01Src_point.cons N) mixed Try.func42 (spec_l01Src_point.ls N) rfl rfl ?_
  intro ds R k y h
  cases ds with
  | nil => exact none_some h
  | cons d0 ds =>
  cases ds with
  | cons _ _ => exact none_some h
  | nil =>
  have h0 : (castDm (.pair (.sl 5 (.int .u8)) (.pair (.int .i64) (.pair (.int .u64) (.pair (.int .i64) .unit)))) .imm d0 fun x0 => bindO (spec_l01Src_point N x0) fun r => k [⟨(.int .i64), .imm, r.1⟩] [⟨(.pair (.sl 5 (.int .u8)) (.pair (.int .i64) (.pair (.int .u64) (.pair (.int .i64) .unit)))), .imm, r.2⟩]) = some y := h
  clear h
  obtain ⟨x0, rfl, h1⟩ := castDm_eq h0
  exact con_fin (spec_l01Src_point.b N x0) h1
theorem spec_l01Src_point.det (N : Nat) : ConDet (spec_l01Src_point.con N) := by
  intro ds R k y h
  cases ds with
  | nil => exact none_some h
  | cons d0 ds =>
  cases ds with
  | cons _ _ => exact none_some h
  | nil =>
  have h0 : (castDm (.pair (.sl 5 (.int .u8)) (.pair (.int .i64) (.pair (.int .u64) (.pair (.int .i64) .unit)))) .imm d0 fun x0 => bindO (spec_l01Src_point N x0) fun r => k [⟨(.int .i64), .imm, r.1⟩] [⟨(.pair (.sl 5 (.int .u8)) (.pair (.int .i64) (.pair (.int .u64) (.pair (.int .i64) .unit)))), .imm, r.2⟩]) = some y := h
  clear h
  obtain ⟨x0, rfl, h1⟩ := castDm_eq h0
  obtain ⟨r, e, h⟩ := bindO_some h1
  refine ⟨_, _, h, fun k' => ?_⟩
  show (castDm (.pair (.sl 5 (.int .u8)) (.pair (.int .i64) (.pair (.int .u64) (.pair (.int .i64) .unit)))) .imm (⟨(.pair (.sl 5 (.int .u8)) (.pair (.int .i64) (.pair (.int .u64) (.pair (.int .i64) .unit)))), .imm, x0⟩ : Dy) fun x0 => bindO (spec_l01Src_point N x0) fun r => k' [⟨(.int .i64), .imm, r.1⟩] [⟨(.pair (.sl 5 (.int .u8)) (.pair (.int .i64) (.pair (.int .u64) (.pair (.int .i64) .unit)))), .imm, r.2⟩]) = _
  simp only [castDm_self]
  rw [e]
  rfl
def spec_l01Src_points.sk2 : Skel := ⟨[.ptr 0 [], .pv (.int .i64), .dead, .dead, .dead, .ov 50 [], .dead, .dead, .dead, .dead, .dead, .dead, .dead, .dead, .dead, .dead, .dead], [⟨0, (.pair (.sl 5 (.int .u8)) (.pair (.int .i64) (.pair (.int .u64) (.pair (.int .i64) .unit)))), .imm, true, false⟩, ⟨50, (.sl 2 (.int .i64)), (.own .imm), false, false⟩]⟩
def spec_l01Src_points.xs2 : List XS := [⟨.exit 0, [5], ⟨[.dead, .dead, .dead, .dead, .dead, .ov 50 [], .dead, .dead, .dead, .dead, .dead, .dead, .dead, .dead, .dead, .dead, .dead], [⟨0, (.pair (.sl 5 (.int .u8)) (.pair (.int .i64) (.pair (.int .u64) (.pair (.int .i64) .unit)))), .imm, true, false⟩, ⟨50, (.sl 2 (.int .i64)), (.own .imm), false, false⟩]⟩⟩]
noncomputable def spec_l01Src_points.con (N : Nat) : Con := { modes := [.io, .v], ptrs := [false], fn := fun ds k => match ds with | [d0, d1] => castDm (.pair (.sl 5 (.int .u8)) (.pair (.int .i64) (.pair (.int .u64) (.pair (.int .i64) .unit)))) .imm d0 fun x0 => castDm (.int .i64) .imm d1 fun x1 => bindO (spec_l01Src_points N x0 x1) fun r => k [⟨(.sl 2 (.int .i64)), (.own .imm), r.1⟩] [⟨(.pair (.sl 5 (.int .u8)) (.pair (.int .i64) (.pair (.int .u64) (.pair (.int .i64) .unit)))), .imm, r.2⟩] | _ => none }
noncomputable def spec_l01Src_points.cfg (N : Nat) : Cfg := { ty := tys, keep := [13], flt := [], elm := [(22, (.own .imm)), (23, (.own (.own .imm))), (24, (.pr (.own (.own .imm)) .imm)), (25, (.pr (.own (.own .imm)) .imm)), (26, (.own .imm)), (27, (.pr (.own .imm) .imm)), (28, (.pr (.own .imm) .imm)), (31, (.pr (.pr (.own .imm) .imm) .imm)), (32, (.pr (.pr (.own .imm) .imm) .imm)), (45, (.pr (.pr (.own .imm) .imm) (.pr (.own .imm) .imm))), (46, (.pr (.pr (.own .imm) .imm) (.pr (.own .imm) .imm))), (54, (.pr (.own .imm) .imm)), (55, (.pr (.own .imm) .imm))], live := [(2, [0, 1, 5])], ord := [], con := [((42, [.one]), spec_l01Src_point.con N)], loops := [(2, loopCon N spec_l01Src_points.sk2 spec_l01Src_points.xs2 (fun {R} => spec_l01Src_points.l2 (R := R) N))], joins := [] }
theorem spec_l01Src_points.cons (N : Nat) : ConsOk Try.prog (spec_l01Src_points.cfg N).con := (consOk_cons (hb42) (spec_l01Src_point.ok N) (spec_l01Src_point.det N) consOk_nil)
theorem spec_l01Src_points.h2 {R : Type} (N : Nat) (d : spec_l01Src_points.sk2.D) (kn : spec_l01Src_points.sk2.D → Option R) (kx : XD spec_l01Src_points.xs2 → Option R) : roundK (spec_l01Src_points.cfg N) N (nthLoop (fnBody Try.f30) 0) spec_l01Src_points.sk2 spec_l01Src_points.xs2 d kn kx = spec_l01Src_points.l2 N d kn kx := by kernel_rfl
theorem spec_l01Src_points.i2 (N : Nat) : LoopsOk Try.prog (spec_l01Src_points.cfg N) (nthLoop (fnBody Try.f30) 0) := loopsL (l := []) (by kernel_rfl) trivial
theorem spec_l01Src_points.o2 (N : Nat) : LoopOk Try.prog (nthLoop (fnBody Try.f30) 0) (loopCon N spec_l01Src_points.sk2 spec_l01Src_points.xs2 (fun {R} => spec_l01Src_points.l2 (R := R) N)) := loop_ok (g := spec_l01Src_points.cfg N) tys_ok (spec_l01Src_points.cons N) mixed (spec_l01Src_points.i2 N) (fun d kn kx => spec_l01Src_points.h2 N d kn kx)
theorem spec_l01Src_points.ls (N : Nat) : LoopsOk Try.prog (spec_l01Src_points.cfg N) (fnBody Try.f30) := loopsL (l := [nthLoop (fnBody Try.f30) 0]) (by kernel_rfl) ⟨loopOne (L0 := loopCon N spec_l01Src_points.sk2 spec_l01Src_points.xs2 (fun {R} => spec_l01Src_points.l2 (R := R) N)) (id := 2) (by kernel_rfl) (by kernel_rfl) (spec_l01Src_points.o2 N), trivial⟩
theorem spec_l01Src_points.q2 {R R' : Type} {N n : Nat} {d} {k} {g : R → Option R'} : bindF (loopP (spec_l01Src_points.l2 N) n d k) g = loopP (spec_l01Src_points.l2 N) n d fun e => bindF (k e) g := bindF_loopP (fun d kn kx => by simp only [spec_l01Src_points.l2, bindF_ifB, bindF_bindO, bindF_pure, bindF_none, bindF_onSum]) n d k
theorem spec_l01Src_points.b (N : Nat) (x0 : den (.pair (.sl 5 (.int .u8)) (.pair (.int .i64) (.pair (.int .u64) (.pair (.int .i64) .unit))))) (x1 : den (.int .i64)) : body (spec_l01Src_points.cfg N) N Try.f30 [.one, .one] [.io, .v] [(false, (.own .imm))] [⟨(.pair (.sl 5 (.int .u8)) (.pair (.int .i64) (.pair (.int .u64) (.pair (.int .i64) .unit)))), .imm, x0⟩, ⟨(.int .i64), .imm, x1⟩] (fun r i => some (r, i)) = bindO (spec_l01Src_points N x0 x1) fun r => some ([⟨(.sl 2 (.int .i64)), (.own .imm), r.1⟩], [⟨(.pair (.sl 5 (.int .u8)) (.pair (.int .i64) (.pair (.int .u64) (.pair (.int .i64) .unit)))), .imm, r.2⟩]) := by
  show _ = bindF _ _
  conv => rhs; simp only [spec_l01Src_points, bindF_ifB, bindF_bindO, bindF_pure, bindF_none, bindF_onSum, spec_l01Src_points.q2]
  kernel_rfl
theorem spec_l01Src_points.ok (N : Nat) : ConOk Try.prog 30 [.one, .one] (spec_l01Src_points.con N) := by
  refine conOk_mk (g := spec_l01Src_points.cfg N) (N := N) (res := [(false, (.own .imm))]) tys_ok (spec_l01Src_points.cons N) mixed Try.func30 (spec_l01Src_points.ls N) rfl rfl ?_
  intro ds R k y h
  cases ds with
  | nil => exact none_some h
  | cons d0 ds =>
  cases ds with
  | nil => exact none_some h
  | cons d1 ds =>
  cases ds with
  | cons _ _ => exact none_some h
  | nil =>
  have h0 : (castDm (.pair (.sl 5 (.int .u8)) (.pair (.int .i64) (.pair (.int .u64) (.pair (.int .i64) .unit)))) .imm d0 fun x0 => castDm (.int .i64) .imm d1 fun x1 => bindO (spec_l01Src_points N x0 x1) fun r => k [⟨(.sl 2 (.int .i64)), (.own .imm), r.1⟩] [⟨(.pair (.sl 5 (.int .u8)) (.pair (.int .i64) (.pair (.int .u64) (.pair (.int .i64) .unit)))), .imm, r.2⟩]) = some y := h
  clear h
  obtain ⟨x0, rfl, h1⟩ := castDm_eq h0
  obtain ⟨x1, rfl, h2⟩ := castDm_eq h1
  exact con_fin (spec_l01Src_points.b N x0 x1) h2
theorem spec_l01Src_points.det (N : Nat) : ConDet (spec_l01Src_points.con N) := by
  intro ds R k y h
  cases ds with
  | nil => exact none_some h
  | cons d0 ds =>
  cases ds with
  | nil => exact none_some h
  | cons d1 ds =>
  cases ds with
  | cons _ _ => exact none_some h
  | nil =>
  have h0 : (castDm (.pair (.sl 5 (.int .u8)) (.pair (.int .i64) (.pair (.int .u64) (.pair (.int .i64) .unit)))) .imm d0 fun x0 => castDm (.int .i64) .imm d1 fun x1 => bindO (spec_l01Src_points N x0 x1) fun r => k [⟨(.sl 2 (.int .i64)), (.own .imm), r.1⟩] [⟨(.pair (.sl 5 (.int .u8)) (.pair (.int .i64) (.pair (.int .u64) (.pair (.int .i64) .unit)))), .imm, r.2⟩]) = some y := h
  clear h
  obtain ⟨x0, rfl, h1⟩ := castDm_eq h0
  obtain ⟨x1, rfl, h2⟩ := castDm_eq h1
  obtain ⟨r, e, h⟩ := bindO_some h2
  refine ⟨_, _, h, fun k' => ?_⟩
  show (castDm (.pair (.sl 5 (.int .u8)) (.pair (.int .i64) (.pair (.int .u64) (.pair (.int .i64) .unit)))) .imm (⟨(.pair (.sl 5 (.int .u8)) (.pair (.int .i64) (.pair (.int .u64) (.pair (.int .i64) .unit)))), .imm, x0⟩ : Dy) fun x0 => castDm (.int .i64) .imm (⟨(.int .i64), .imm, x1⟩ : Dy) fun x1 => bindO (spec_l01Src_points N x0 x1) fun r => k' [⟨(.sl 2 (.int .i64)), (.own .imm), r.1⟩] [⟨(.pair (.sl 5 (.int .u8)) (.pair (.int .i64) (.pair (.int .u64) (.pair (.int .i64) .unit)))), .imm, r.2⟩]) = _
  simp only [castDm_self]
  rw [e]
  rfl
def spec_l01Src_l04Ring.sk5 : Skel := ⟨[.ptr 0 [], .dead, .ptr 50 [], .ptr 51 [], .pv (.int .i64), .dead, .dead, .dead, .dead, .dead, .dead, .dead, .dead, .dead, .dead, .dead, .dead, .dead, .dead, .dead, .dead, .dead, .dead, .dead, .dead, .dead, .dead, .dead, .dead, .dead, .dead, .dead, .dead, .dead, .dead, .dead, .dead, .dead, .dead, .dead, .dead, .dead, .dead, .dead, .dead, .dead, .dead, .dead, .dead, .dead, .dead, .dead, .dead, .dead, .dead, .dead, .dead, .dead, .dead, .dead, .dead, .dead, .dead, .dead, .dead, .dead, .dead, .dead, .dead, .dead, .dead], [⟨0, (.pair (.sl 5 (.int .u8)) (.pair (.int .i64) (.pair (.int .u64) (.pair (.int .i64) .unit)))), .imm, true, false⟩, ⟨50, (.pair (.sl 26 (.sl 2 (.int .i64))) (.pair (.int .i64) .unit)), (.pr (.own (.own .imm)) .imm), true, false⟩, ⟨51, (.pair (.sl 26 (.sl 2 (.int .i64))) (.pair (.int .i64) .unit)), (.pr (.own (.own .imm)) .imm), true, false⟩]⟩
def spec_l01Src_l04Ring.xs5 : List XS := [⟨.exit 0, [0, 2, 3], ⟨[.ptr 0 [], .dead, .ptr 50 [], .ptr 51 [], .dead, .dead, .dead, .dead, .dead, .dead, .dead, .dead, .dead, .dead, .dead, .dead, .dead, .dead, .dead, .dead, .dead, .dead, .dead, .dead, .dead, .dead, .dead, .dead, .dead, .dead, .dead, .dead, .dead, .dead, .dead, .dead, .dead, .dead, .dead, .dead, .dead, .dead, .dead, .dead, .dead, .dead, .dead, .dead, .dead, .dead, .dead, .dead, .dead, .dead, .dead, .dead, .dead, .dead, .dead, .dead, .dead, .dead, .dead, .dead, .dead, .dead, .dead, .dead, .dead, .dead, .dead], [⟨0, (.pair (.sl 5 (.int .u8)) (.pair (.int .i64) (.pair (.int .u64) (.pair (.int .i64) .unit)))), .imm, true, false⟩, ⟨50, (.pair (.sl 26 (.sl 2 (.int .i64))) (.pair (.int .i64) .unit)), (.pr (.own (.own .imm)) .imm), true, false⟩, ⟨51, (.pair (.sl 26 (.sl 2 (.int .i64))) (.pair (.int .i64) .unit)), (.pr (.own (.own .imm)) .imm), true, false⟩]⟩⟩]
noncomputable def spec_l01Src_l04Ring.con (N : Nat) : Con := { modes := [.io], ptrs := [false], fn := fun ds k => match ds with | [d0] => castDm (.pair (.sl 5 (.int .u8)) (.pair (.int .i64) (.pair (.int .u64) (.pair (.int .i64) .unit)))) .imm d0 fun x0 => bindO (spec_l01Src_l04Ring N x0) fun r => k [⟨(.pair (.sl 26 (.sl 2 (.int .i64))) (.pair (.int .i64) .unit)), (.pr (.own (.own .imm)) .imm), r.1⟩] [⟨(.pair (.sl 5 (.int .u8)) (.pair (.int .i64) (.pair (.int .u64) (.pair (.int .i64) .unit)))), .imm, r.2⟩] | _ => none }
noncomputable def spec_l01Src_l04Ring.cfg (N : Nat) : Cfg := { ty := tys, keep := [7, 9, 11, 21, 23, 35, 38, 40, 58, 45, 47], flt := [], elm := [(22, (.own .imm)), (23, (.own (.own .imm))), (24, (.pr (.own (.own .imm)) .imm)), (25, (.pr (.own (.own .imm)) .imm)), (26, (.own .imm)), (27, (.pr (.own .imm) .imm)), (28, (.pr (.own .imm) .imm)), (31, (.pr (.pr (.own .imm) .imm) .imm)), (32, (.pr (.pr (.own .imm) .imm) .imm)), (45, (.pr (.pr (.own .imm) .imm) (.pr (.own .imm) .imm))), (46, (.pr (.pr (.own .imm) .imm) (.pr (.own .imm) .imm))), (54, (.pr (.own .imm) .imm)), (55, (.pr (.own .imm) .imm))], live := [(5, [0, 2, 3, 4])], ord := [(7, [0, 1, 2, 3, 4, 5, 6, 7, 8, 9, 10]), (14, [0, 1, 4, 2, 3, 5, 6, 7, 8, 9]), (12, [0, 1, 2, 3, 4, 5, 6, 7, 8, 9, 10])], con := [((28, [.one, .one]), spec_l01Src_n.con N), ((29, [.one, .one]), spec_l01Src_one.con N), ((30, [.one, .one]), spec_l01Src_points.con N)], loops := [(5, loopCon N spec_l01Src_l04Ring.sk5 spec_l01Src_l04Ring.xs5 (fun {R} => spec_l01Src_l04Ring.l5 (R := R) N))], joins := [] }
theorem spec_l01Src_l04Ring.cons (N : Nat) : ConsOk Try.prog (spec_l01Src_l04Ring.cfg N).con := (consOk_cons (hb28) (spec_l01Src_n.ok N) (spec_l01Src_n.det N) (consOk_cons (hb29) (spec_l01Src_one.ok N) (spec_l01Src_one.det N) (consOk_cons (hb30) (spec_l01Src_points.ok N) (spec_l01Src_points.det N) consOk_nil)))
theorem spec_l01Src_l04Ring.h5 {R : Type} (N : Nat) (d : spec_l01Src_l04Ring.sk5.D) (kn : spec_l01Src_l04Ring.sk5.D → Option R) (kx : XD spec_l01Src_l04Ring.xs5 → Option R) : roundK (spec_l01Src_l04Ring.cfg N) N (nthLoop (fnBody Try.f13) 0) spec_l01Src_l04Ring.sk5 spec_l01Src_l04Ring.xs5 d kn kx = spec_l01Src_l04Ring.l5 N d kn kx := by kernel_rfl
theorem spec_l01Src_l04Ring.i5 (N : Nat) : LoopsOk Try.prog (spec_l01Src_l04Ring.cfg N) (nthLoop (fnBody Try.f13) 0) := loopsL (l := []) (by kernel_rfl) trivial
theorem spec_l01Src_l04Ring.o5 (N : Nat) : LoopOk Try.prog (nthLoop (fnBody Try.f13) 0) (loopCon N spec_l01Src_l04Ring.sk5 spec_l01Src_l04Ring.xs5 (fun {R} => spec_l01Src_l04Ring.l5 (R := R) N)) := loop_ok (g := spec_l01Src_l04Ring.cfg N) tys_ok (spec_l01Src_l04Ring.cons N) mixed (spec_l01Src_l04Ring.i5 N) (fun d kn kx => spec_l01Src_l04Ring.h5 N d kn kx)
theorem spec_l01Src_l04Ring.ls (N : Nat) : LoopsOk Try.prog (spec_l01Src_l04Ring.cfg N) (fnBody Try.f13) := loopsL (l := [nthLoop (fnBody Try.f13) 0]) (by kernel_rfl) ⟨loopOne (L0 := loopCon N spec_l01Src_l04Ring.sk5 spec_l01Src_l04Ring.xs5 (fun {R} => spec_l01Src_l04Ring.l5 (R := R) N)) (id := 5) (by kernel_rfl) (by kernel_rfl) (spec_l01Src_l04Ring.o5 N), trivial⟩
theorem spec_l01Src_l04Ring.q5 {R R' : Type} {N n : Nat} {d} {k} {g : R → Option R'} : bindF (loopP (spec_l01Src_l04Ring.l5 N) n d k) g = loopP (spec_l01Src_l04Ring.l5 N) n d fun e => bindF (k e) g := bindF_loopP (fun d kn kx => by simp only [spec_l01Src_l04Ring.l5, bindF_ifB, bindF_bindO, bindF_pure, bindF_none, bindF_onSum]) n d k
theorem spec_l01Src_l04Ring.b (N : Nat) (x0 : den (.pair (.sl 5 (.int .u8)) (.pair (.int .i64) (.pair (.int .u64) (.pair (.int .i64) .unit))))) : body (spec_l01Src_l04Ring.cfg N) N Try.f13 [.one] [.io] [(false, (.pr (.own (.own .imm)) .imm))] [⟨(.pair (.sl 5 (.int .u8)) (.pair (.int .i64) (.pair (.int .u64) (.pair (.int .i64) .unit)))), .imm, x0⟩] (fun r i => some (r, i)) = bindO (spec_l01Src_l04Ring N x0) fun r => some ([⟨(.pair (.sl 26 (.sl 2 (.int .i64))) (.pair (.int .i64) .unit)), (.pr (.own (.own .imm)) .imm), r.1⟩], [⟨(.pair (.sl 5 (.int .u8)) (.pair (.int .i64) (.pair (.int .u64) (.pair (.int .i64) .unit)))), .imm, r.2⟩]) := by
  show _ = bindF _ _
  conv => rhs; simp only [spec_l01Src_l04Ring, bindF_ifB, bindF_bindO, bindF_pure, bindF_none, bindF_onSum, spec_l01Src_l04Ring.q5]
  kernel_rfl
theorem spec_l01Src_l04Ring.ok (N : Nat) : ConOk Try.prog 13 [.one] (spec_l01Src_l04Ring.con N) := by
  refine conOk_mk (g := spec_l01Src_l04Ring.cfg N) (N := N) (res := [(false, (.pr (.own (.own .imm)) .imm))]) tys_ok (spec_l01Src_l04Ring.cons N) mixed Try.func13 (spec_l01Src_l04Ring.ls N) rfl rfl ?_
  intro ds R k y h
  cases ds with
  | nil => exact none_some h
  | cons d0 ds =>
  cases ds with
  | cons _ _ => exact none_some h
  | nil =>
  have h0 : (castDm (.pair (.sl 5 (.int .u8)) (.pair (.int .i64) (.pair (.int .u64) (.pair (.int .i64) .unit)))) .imm d0 fun x0 => bindO (spec_l01Src_l04Ring N x0) fun r => k [⟨(.pair (.sl 26 (.sl 2 (.int .i64))) (.pair (.int .i64) .unit)), (.pr (.own (.own .imm)) .imm), r.1⟩] [⟨(.pair (.sl 5 (.int .u8)) (.pair (.int .i64) (.pair (.int .u64) (.pair (.int .i64) .unit)))), .imm, r.2⟩]) = some y := h
  clear h
  obtain ⟨x0, rfl, h1⟩ := castDm_eq h0
  exact con_fin (spec_l01Src_l04Ring.b N x0) h1
theorem spec_l01Src_l04Ring.det (N : Nat) : ConDet (spec_l01Src_l04Ring.con N) := by
  intro ds R k y h
  cases ds with
  | nil => exact none_some h
  | cons d0 ds =>
  cases ds with
  | cons _ _ => exact none_some h
  | nil =>
  have h0 : (castDm (.pair (.sl 5 (.int .u8)) (.pair (.int .i64) (.pair (.int .u64) (.pair (.int .i64) .unit)))) .imm d0 fun x0 => bindO (spec_l01Src_l04Ring N x0) fun r => k [⟨(.pair (.sl 26 (.sl 2 (.int .i64))) (.pair (.int .i64) .unit)), (.pr (.own (.own .imm)) .imm), r.1⟩] [⟨(.pair (.sl 5 (.int .u8)) (.pair (.int .i64) (.pair (.int .u64) (.pair (.int .i64) .unit)))), .imm, r.2⟩]) = some y := h
  clear h
  obtain ⟨x0, rfl, h1⟩ := castDm_eq h0
  obtain ⟨r, e, h⟩ := bindO_some h1
  refine ⟨_, _, h, fun k' => ?_⟩
  show (castDm (.pair (.sl 5 (.int .u8)) (.pair (.int .i64) (.pair (.int .u64) (.pair (.int .i64) .unit)))) .imm (⟨(.pair (.sl 5 (.int .u8)) (.pair (.int .i64) (.pair (.int .u64) (.pair (.int .i64) .unit)))), .imm, x0⟩ : Dy) fun x0 => bindO (spec_l01Src_l04Ring N x0) fun r => k' [⟨(.pair (.sl 26 (.sl 2 (.int .i64))) (.pair (.int .i64) .unit)), (.pr (.own (.own .imm)) .imm), r.1⟩] [⟨(.pair (.sl 5 (.int .u8)) (.pair (.int .i64) (.pair (.int .u64) (.pair (.int .i64) .unit)))), .imm, r.2⟩]) = _
  simp only [castDm_self]
  rw [e]
  rfl
noncomputable def spec_l01Src_l02Buf.con (N : Nat) : Con := { modes := [.io], ptrs := [false], fn := fun ds k => match ds with | [d0] => castDm (.pair (.sl 5 (.int .u8)) (.pair (.int .i64) (.pair (.int .u64) (.pair (.int .i64) .unit)))) .imm d0 fun x0 => bindO (spec_l01Src_l02Buf N x0) fun r => k [⟨(.pair (.sl 2 (.int .i64)) (.pair (.int .i64) (.pair (.int .i64) .unit))), (.pr (.own .imm) .imm), r.1⟩] [⟨(.pair (.sl 5 (.int .u8)) (.pair (.int .i64) (.pair (.int .u64) (.pair (.int .i64) .unit)))), .imm, r.2⟩] | _ => none }
noncomputable def spec_l01Src_l02Buf.cfg (N : Nat) : Cfg := { ty := tys, keep := [13, 14, 17, 20, 22, 30, 35, 38, 40, 52, 62], flt := [], elm := [(22, (.own .imm)), (23, (.own (.own .imm))), (24, (.pr (.own (.own .imm)) .imm)), (25, (.pr (.own (.own .imm)) .imm)), (26, (.own .imm)), (27, (.pr (.own .imm) .imm)), (28, (.pr (.own .imm) .imm)), (31, (.pr (.pr (.own .imm) .imm) .imm)), (32, (.pr (.pr (.own .imm) .imm) .imm)), (45, (.pr (.pr (.own .imm) .imm) (.pr (.own .imm) .imm))), (46, (.pr (.pr (.own .imm) .imm) (.pr (.own .imm) .imm))), (54, (.pr (.own .imm) .imm)), (55, (.pr (.own .imm) .imm))], live := [], ord := [], con := [((28, [.one, .one]), spec_l01Src_n.con N), ((30, [.one, .one]), spec_l01Src_points.con N), ((29, [.one, .one]), spec_l01Src_one.con N)], loops := [], joins := [] }
theorem spec_l01Src_l02Buf.cons (N : Nat) : ConsOk Try.prog (spec_l01Src_l02Buf.cfg N).con := (consOk_cons (hb28) (spec_l01Src_n.ok N) (spec_l01Src_n.det N) (consOk_cons (hb30) (spec_l01Src_points.ok N) (spec_l01Src_points.det N) (consOk_cons (hb29) (spec_l01Src_one.ok N) (spec_l01Src_one.det N) consOk_nil)))
theorem spec_l01Src_l02Buf.ls (N : Nat) : LoopsOk Try.prog (spec_l01Src_l02Buf.cfg N) (fnBody Try.f14) := loopsL (l := []) (by kernel_rfl) trivial
theorem spec_l01Src_l02Buf.b (N : Nat) (x0 : den (.pair (.sl 5 (.int .u8)) (.pair (.int .i64) (.pair (.int .u64) (.pair (.int .i64) .unit))))) : body (spec_l01Src_l02Buf.cfg N) N Try.f14 [.one] [.io] [(false, (.pr (.own .imm) .imm))] [⟨(.pair (.sl 5 (.int .u8)) (.pair (.int .i64) (.pair (.int .u64) (.pair (.int .i64) .unit)))), .imm, x0⟩] (fun r i => some (r, i)) = bindO (spec_l01Src_l02Buf N x0) fun r => some ([⟨(.pair (.sl 2 (.int .i64)) (.pair (.int .i64) (.pair (.int .i64) .unit))), (.pr (.own .imm) .imm), r.1⟩], [⟨(.pair (.sl 5 (.int .u8)) (.pair (.int .i64) (.pair (.int .u64) (.pair (.int .i64) .unit)))), .imm, r.2⟩]) := by
  show _ = bindF _ _
  conv => rhs; simp only [spec_l01Src_l02Buf, bindF_ifB, bindF_bindO, bindF_pure, bindF_none, bindF_onSum]
  kernel_rfl
theorem spec_l01Src_l02Buf.ok (N : Nat) : ConOk Try.prog 14 [.one] (spec_l01Src_l02Buf.con N) := by
  refine conOk_mk (g := spec_l01Src_l02Buf.cfg N) (N := N) (res := [(false, (.pr (.own .imm) .imm))]) tys_ok (spec_l01Src_l02Buf.cons N) mixed Try.func14 (spec_l01Src_l02Buf.ls N) rfl rfl ?_
  intro ds R k y h
  cases ds with
  | nil => exact none_some h
  | cons d0 ds =>
  cases ds with
  | cons _ _ => exact none_some h
  | nil =>
  have h0 : (castDm (.pair (.sl 5 (.int .u8)) (.pair (.int .i64) (.pair (.int .u64) (.pair (.int .i64) .unit)))) .imm d0 fun x0 => bindO (spec_l01Src_l02Buf N x0) fun r => k [⟨(.pair (.sl 2 (.int .i64)) (.pair (.int .i64) (.pair (.int .i64) .unit))), (.pr (.own .imm) .imm), r.1⟩] [⟨(.pair (.sl 5 (.int .u8)) (.pair (.int .i64) (.pair (.int .u64) (.pair (.int .i64) .unit)))), .imm, r.2⟩]) = some y := h
  clear h
  obtain ⟨x0, rfl, h1⟩ := castDm_eq h0
  exact con_fin (spec_l01Src_l02Buf.b N x0) h1
theorem spec_l01Src_l02Buf.det (N : Nat) : ConDet (spec_l01Src_l02Buf.con N) := by
  intro ds R k y h
  cases ds with
  | nil => exact none_some h
  | cons d0 ds =>
  cases ds with
  | cons _ _ => exact none_some h
  | nil =>
  have h0 : (castDm (.pair (.sl 5 (.int .u8)) (.pair (.int .i64) (.pair (.int .u64) (.pair (.int .i64) .unit)))) .imm d0 fun x0 => bindO (spec_l01Src_l02Buf N x0) fun r => k [⟨(.pair (.sl 2 (.int .i64)) (.pair (.int .i64) (.pair (.int .i64) .unit))), (.pr (.own .imm) .imm), r.1⟩] [⟨(.pair (.sl 5 (.int .u8)) (.pair (.int .i64) (.pair (.int .u64) (.pair (.int .i64) .unit)))), .imm, r.2⟩]) = some y := h
  clear h
  obtain ⟨x0, rfl, h1⟩ := castDm_eq h0
  obtain ⟨r, e, h⟩ := bindO_some h1
  refine ⟨_, _, h, fun k' => ?_⟩
  show (castDm (.pair (.sl 5 (.int .u8)) (.pair (.int .i64) (.pair (.int .u64) (.pair (.int .i64) .unit)))) .imm (⟨(.pair (.sl 5 (.int .u8)) (.pair (.int .i64) (.pair (.int .u64) (.pair (.int .i64) .unit)))), .imm, x0⟩ : Dy) fun x0 => bindO (spec_l01Src_l02Buf N x0) fun r => k' [⟨(.pair (.sl 2 (.int .i64)) (.pair (.int .i64) (.pair (.int .i64) .unit))), (.pr (.own .imm) .imm), r.1⟩] [⟨(.pair (.sl 5 (.int .u8)) (.pair (.int .i64) (.pair (.int .u64) (.pair (.int .i64) .unit)))), .imm, r.2⟩]) = _
  simp only [castDm_self]
  rw [e]
  rfl
noncomputable def spec_DrawRingYank.con (N : Nat) : Con := { modes := [.v], ptrs := [false, false], fn := fun ds k => match ds with | [d0] => castDm (.sl 5 (.int .u8)) .imm d0 fun x0 => bindO (spec_DrawRingYank N x0) fun r => k [⟨(.pair (.sl 26 (.sl 2 (.int .i64))) (.pair (.int .i64) .unit)), (.pr (.own (.own .imm)) .imm), r.1⟩, ⟨(.pair (.sl 2 (.int .i64)) (.pair (.int .i64) (.pair (.int .i64) .unit))), (.pr (.own .imm) .imm), r.2⟩] [] | _ => none }
noncomputable def spec_DrawRingYank.cfg (N : Nat) : Cfg := { ty := tys, keep := [7, 9, 12], flt := [], elm := [(22, (.own .imm)), (23, (.own (.own .imm))), (24, (.pr (.own (.own .imm)) .imm)), (25, (.pr (.own (.own .imm)) .imm)), (26, (.own .imm)), (27, (.pr (.own .imm) .imm)), (28, (.pr (.own .imm) .imm)), (31, (.pr (.pr (.own .imm) .imm) .imm)), (32, (.pr (.pr (.own .imm) .imm) .imm)), (45, (.pr (.pr (.own .imm) .imm) (.pr (.own .imm) .imm))), (46, (.pr (.pr (.own .imm) .imm) (.pr (.own .imm) .imm))), (54, (.pr (.own .imm) .imm)), (55, (.pr (.own .imm) .imm))], live := [], ord := [(3, [0, 1, 2, 3, 4])], con := [((12, [.one]), spec_l01Source.con N), ((13, [.one]), spec_l01Src_l04Ring.con N), ((14, [.one]), spec_l01Src_l02Buf.con N)], loops := [], joins := [] }
theorem spec_DrawRingYank.cons (N : Nat) : ConsOk Try.prog (spec_DrawRingYank.cfg N).con := (consOk_cons (hb12) (spec_l01Source.ok N) (spec_l01Source.det N) (consOk_cons (hb13) (spec_l01Src_l04Ring.ok N) (spec_l01Src_l04Ring.det N) (consOk_cons (hb14) (spec_l01Src_l02Buf.ok N) (spec_l01Src_l02Buf.det N) consOk_nil)))
theorem spec_DrawRingYank.ls (N : Nat) : LoopsOk Try.prog (spec_DrawRingYank.cfg N) (fnBody Try.f4) := loopsL (l := []) (by kernel_rfl) trivial
theorem spec_DrawRingYank.b (N : Nat) (x0 : den (.sl 5 (.int .u8))) : body (spec_DrawRingYank.cfg N) N Try.f4 [.one] [.v] [(false, (.pr (.own (.own .imm)) .imm)), (false, (.pr (.own .imm) .imm))] [⟨(.sl 5 (.int .u8)), .imm, x0⟩] (fun r i => some (r, i)) = bindO (spec_DrawRingYank N x0) fun r => some ([⟨(.pair (.sl 26 (.sl 2 (.int .i64))) (.pair (.int .i64) .unit)), (.pr (.own (.own .imm)) .imm), r.1⟩, ⟨(.pair (.sl 2 (.int .i64)) (.pair (.int .i64) (.pair (.int .i64) .unit))), (.pr (.own .imm) .imm), r.2⟩], []) := by
  show _ = bindF _ _
  conv => rhs; simp only [spec_DrawRingYank, bindF_ifB, bindF_bindO, bindF_pure, bindF_none, bindF_onSum]
  kernel_rfl
theorem spec_DrawRingYank.ok (N : Nat) : ConOk Try.prog 4 [.one] (spec_DrawRingYank.con N) := by
  refine conOk_mk (g := spec_DrawRingYank.cfg N) (N := N) (res := [(false, (.pr (.own (.own .imm)) .imm)), (false, (.pr (.own .imm) .imm))]) tys_ok (spec_DrawRingYank.cons N) mixed Try.func4 (spec_DrawRingYank.ls N) rfl rfl ?_
  intro ds R k y h
  cases ds with
  | nil => exact none_some h
  | cons d0 ds =>
  cases ds with
  | cons _ _ => exact none_some h
  | nil =>
  have h0 : (castDm (.sl 5 (.int .u8)) .imm d0 fun x0 => bindO (spec_DrawRingYank N x0) fun r => k [⟨(.pair (.sl 26 (.sl 2 (.int .i64))) (.pair (.int .i64) .unit)), (.pr (.own (.own .imm)) .imm), r.1⟩, ⟨(.pair (.sl 2 (.int .i64)) (.pair (.int .i64) (.pair (.int .i64) .unit))), (.pr (.own .imm) .imm), r.2⟩] []) = some y := h
  clear h
  obtain ⟨x0, rfl, h1⟩ := castDm_eq h0
  exact con_fin (spec_DrawRingYank.b N x0) h1
theorem spec_DrawRingYank.det (N : Nat) : ConDet (spec_DrawRingYank.con N) := by
  intro ds R k y h
  cases ds with
  | nil => exact none_some h
  | cons d0 ds =>
  cases ds with
  | cons _ _ => exact none_some h
  | nil =>
  have h0 : (castDm (.sl 5 (.int .u8)) .imm d0 fun x0 => bindO (spec_DrawRingYank N x0) fun r => k [⟨(.pair (.sl 26 (.sl 2 (.int .i64))) (.pair (.int .i64) .unit)), (.pr (.own (.own .imm)) .imm), r.1⟩, ⟨(.pair (.sl 2 (.int .i64)) (.pair (.int .i64) (.pair (.int .i64) .unit))), (.pr (.own .imm) .imm), r.2⟩] []) = some y := h
  clear h
  obtain ⟨x0, rfl, h1⟩ := castDm_eq h0
  obtain ⟨r, e, h⟩ := bindO_some h1
  refine ⟨_, _, h, fun k' => ?_⟩
  show (castDm (.sl 5 (.int .u8)) .imm (⟨(.sl 5 (.int .u8)), .imm, x0⟩ : Dy) fun x0 => bindO (spec_DrawRingYank N x0) fun r => k' [⟨(.pair (.sl 26 (.sl 2 (.int .i64))) (.pair (.int .i64) .unit)), (.pr (.own (.own .imm)) .imm), r.1⟩, ⟨(.pair (.sl 2 (.int .i64)) (.pair (.int .i64) (.pair (.int .i64) .unit))), (.pr (.own .imm) .imm), r.2⟩] []) = _
  simp only [castDm_self]
  rw [e]
  rfl
noncomputable def spec_l01Point.con (N : Nat) : Con := { modes := [.v], ptrs := [false], fn := fun ds k => match ds with | [d0] => castDm (.int .i64) .imm d0 fun x0 => bindO (spec_l01Point N x0) fun r => k [⟨.bool, .imm, r⟩] [] | _ => none }
noncomputable def spec_l01Point.cfg (N : Nat) : Cfg := { ty := tys, keep := [], flt := [], elm := [(22, (.own .imm)), (23, (.own (.own .imm))), (24, (.pr (.own (.own .imm)) .imm)), (25, (.pr (.own (.own .imm)) .imm)), (26, (.own .imm)), (27, (.pr (.own .imm) .imm)), (28, (.pr (.own .imm) .imm)), (31, (.pr (.pr (.own .imm) .imm) .imm)), (32, (.pr (.pr (.own .imm) .imm) .imm)), (45, (.pr (.pr (.own .imm) .imm) (.pr (.own .imm) .imm))), (46, (.pr (.pr (.own .imm) .imm) (.pr (.own .imm) .imm))), (54, (.pr (.own .imm) .imm)), (55, (.pr (.own .imm) .imm))], live := [], ord := [], con := [], loops := [], joins := [] }
theorem spec_l01Point.cons (N : Nat) : ConsOk Try.prog (spec_l01Point.cfg N).con := consOk_nil
theorem spec_l01Point.ls (N : Nat) : LoopsOk Try.prog (spec_l01Point.cfg N) (fnBody Try.f43) := loopsL (l := []) (by kernel_rfl) trivial
theorem spec_l01Point.b (N : Nat) (x0 : den (.int .i64)) : body (spec_l01Point.cfg N) N Try.f43 [.one] [.v] [(false, .imm)] [⟨(.int .i64), .imm, x0⟩] (fun r i => some (r, i)) = bindO (spec_l01Point N x0) fun r => some ([⟨.bool, .imm, r⟩], []) := by
  show _ = bindF _ _
  conv => rhs; simp only [spec_l01Point, bindF_ifB, bindF_bindO, bindF_pure, bindF_none, bindF_onSum]
  kernel_rfl
theorem spec_l01Point.ok (N : Nat) : ConOk Try.prog 43 [.one] (spec_l01Point.con N) := by
  refine conOk_mk (g := spec_l01Point.cfg N) (N := N) (res := [(false, .imm)]) tys_ok (spec_l01Point.cons N) mixed Try.func43 (spec_l01Point.ls N) rfl rfl ?_
  intro ds R k y h
  cases ds with
  | nil => exact none_some h
  | cons d0 ds =>
  cases ds with
  | cons _ _ => exact none_some h
  | nil =>
  have h0 : (castDm (.int .i64) .imm d0 fun x0 => bindO (spec_l01Point N x0) fun r => k [⟨.bool, .imm, r⟩] []) = some y := h
  clear h
  obtain ⟨x0, rfl, h1⟩ := castDm_eq h0
  exact con_fin (spec_l01Point.b N x0) h1
theorem spec_l01Point.det (N : Nat) : ConDet (spec_l01Point.con N) := by
  intro ds R k y h
  cases ds with
  | nil => exact none_some h
  | cons d0 ds =>
  cases ds with
  | cons _ _ => exact none_some h
  | nil =>
  have h0 : (castDm (.int .i64) .imm d0 fun x0 => bindO (spec_l01Point N x0) fun r => k [⟨.bool, .imm, r⟩] []) = some y := h
  clear h
  obtain ⟨x0, rfl, h1⟩ := castDm_eq h0
  obtain ⟨r, e, h⟩ := bindO_some h1
  refine ⟨_, _, h, fun k' => ?_⟩
  show (castDm (.int .i64) .imm (⟨(.int .i64), .imm, x0⟩ : Dy) fun x0 => bindO (spec_l01Point N x0) fun r => k' [⟨.bool, .imm, r⟩] []) = _
  simp only [castDm_self]
  rw [e]
  rfl
def spec_PointsRight.sk4 : Skel := ⟨[.pv (.sl 2 (.int .i64)), .dead, .dead, .pv (.int .i64), .dead, .dead, .dead, .dead, .dead, .dead, .dead, .dead, .dead, .dead, .dead, .dead, .dead, .dead, .dead], []⟩
def spec_PointsRight.xs4 : List XS := [⟨.exit 0, [], ⟨[.dead, .dead, .dead, .dead, .dead, .dead, .dead, .dead, .dead, .dead, .dead, .dead, .dead, .dead, .dead, .dead, .dead, .dead, .dead], []⟩⟩, ⟨.ret, [2], ⟨[.dead, .dead, .pv .bool, .dead, .dead, .dead, .dead, .dead, .dead, .dead, .dead, .dead, .dead, .dead, .dead, .dead, .dead, .dead, .dead], []⟩⟩]
noncomputable def spec_PointsRight.con (N : Nat) : Con := { modes := [.v], ptrs := [false], fn := fun ds k => match ds with | [d0] => castDm (.sl 2 (.int .i64)) .imm d0 fun x0 => bindO (spec_PointsRight N x0) fun r => k [⟨.bool, .imm, r⟩] [] | _ => none }
noncomputable def spec_PointsRight.cfg (N : Nat) : Cfg := { ty := tys, keep := [17], flt := [], elm := [(22, (.own .imm)), (23, (.own (.own .imm))), (24, (.pr (.own (.own .imm)) .imm)), (25, (.pr (.own (.own .imm)) .imm)), (26, (.own .imm)), (27, (.pr (.own .imm) .imm)), (28, (.pr (.own .imm) .imm)), (31, (.pr (.pr (.own .imm) .imm) .imm)), (32, (.pr (.pr (.own .imm) .imm) .imm)), (45, (.pr (.pr (.own .imm) .imm) (.pr (.own .imm) .imm))), (46, (.pr (.pr (.own .imm) .imm) (.pr (.own .imm) .imm))), (54, (.pr (.own .imm) .imm)), (55, (.pr (.own .imm) .imm))], live := [(4, [0, 3])], ord := [], con := [((43, [.one]), spec_l01Point.con N)], loops := [(4, loopCon N spec_PointsRight.sk4 spec_PointsRight.xs4 (fun {R} => spec_PointsRight.l4 (R := R) N))], joins := [] }
theorem spec_PointsRight.cons (N : Nat) : ConsOk Try.prog (spec_PointsRight.cfg N).con := (consOk_cons (hb43) (spec_l01Point.ok N) (spec_l01Point.det N) consOk_nil)
theorem spec_PointsRight.h4 {R : Type} (N : Nat) (d : spec_PointsRight.sk4.D) (kn : spec_PointsRight.sk4.D → Option R) (kx : XD spec_PointsRight.xs4 → Option R) : roundK (spec_PointsRight.cfg N) N (nthLoop (fnBody Try.f32) 0) spec_PointsRight.sk4 spec_PointsRight.xs4 d kn kx = spec_PointsRight.l4 N d kn kx := by kernel_rfl
theorem spec_PointsRight.i4 (N : Nat) : LoopsOk Try.prog (spec_PointsRight.cfg N) (nthLoop (fnBody Try.f32) 0) := loopsL (l := []) (by kernel_rfl) trivial
theorem spec_PointsRight.o4 (N : Nat) : LoopOk Try.prog (nthLoop (fnBody Try.f32) 0) (loopCon N spec_PointsRight.sk4 spec_PointsRight.xs4 (fun {R} => spec_PointsRight.l4 (R := R) N)) := loop_ok (g := spec_PointsRight.cfg N) tys_ok (spec_PointsRight.cons N) mixed (spec_PointsRight.i4 N) (fun d kn kx => spec_PointsRight.h4 N d kn kx)
theorem spec_PointsRight.ls (N : Nat) : LoopsOk Try.prog (spec_PointsRight.cfg N) (fnBody Try.f32) := loopsL (l := [nthLoop (fnBody Try.f32) 0]) (by kernel_rfl) ⟨loopOne (L0 := loopCon N spec_PointsRight.sk4 spec_PointsRight.xs4 (fun {R} => spec_PointsRight.l4 (R := R) N)) (id := 4) (by kernel_rfl) (by kernel_rfl) (spec_PointsRight.o4 N), trivial⟩
theorem spec_PointsRight.q4 {R R' : Type} {N n : Nat} {d} {k} {g : R → Option R'} : bindF (loopP (spec_PointsRight.l4 N) n d k) g = loopP (spec_PointsRight.l4 N) n d fun e => bindF (k e) g := bindF_loopP (fun d kn kx => by simp only [spec_PointsRight.l4, bindF_ifB, bindF_bindO, bindF_pure, bindF_none, bindF_onSum]) n d k
theorem spec_PointsRight.b (N : Nat) (x0 : den (.sl 2 (.int .i64))) : body (spec_PointsRight.cfg N) N Try.f32 [.one] [.v] [(false, .imm)] [⟨(.sl 2 (.int .i64)), .imm, x0⟩] (fun r i => some (r, i)) = bindO (spec_PointsRight N x0) fun r => some ([⟨.bool, .imm, r⟩], []) := by
  show _ = bindF _ _
  conv => rhs; simp only [spec_PointsRight, bindF_ifB, bindF_bindO, bindF_pure, bindF_none, bindF_onSum, spec_PointsRight.q4]
  kernel_rfl
theorem spec_PointsRight.ok (N : Nat) : ConOk Try.prog 32 [.one] (spec_PointsRight.con N) := by
  refine conOk_mk (g := spec_PointsRight.cfg N) (N := N) (res := [(false, .imm)]) tys_ok (spec_PointsRight.cons N) mixed Try.func32 (spec_PointsRight.ls N) rfl rfl ?_
  intro ds R k y h
  cases ds with
  | nil => exact none_some h
  | cons d0 ds =>
  cases ds with
  | cons _ _ => exact none_some h
  | nil =>
  have h0 : (castDm (.sl 2 (.int .i64)) .imm d0 fun x0 => bindO (spec_PointsRight N x0) fun r => k [⟨.bool, .imm, r⟩] []) = some y := h
  clear h
  obtain ⟨x0, rfl, h1⟩ := castDm_eq h0
  exact con_fin (spec_PointsRight.b N x0) h1
theorem spec_PointsRight.det (N : Nat) : ConDet (spec_PointsRight.con N) := by
  intro ds R k y h
  cases ds with
  | nil => exact none_some h
  | cons d0 ds =>
  cases ds with
  | cons _ _ => exact none_some h
  | nil =>
  have h0 : (castDm (.sl 2 (.int .i64)) .imm d0 fun x0 => bindO (spec_PointsRight N x0) fun r => k [⟨.bool, .imm, r⟩] []) = some y := h
  clear h
  obtain ⟨x0, rfl, h1⟩ := castDm_eq h0
  obtain ⟨r, e, h⟩ := bindO_some h1
  refine ⟨_, _, h, fun k' => ?_⟩
  show (castDm (.sl 2 (.int .i64)) .imm (⟨(.sl 2 (.int .i64)), .imm, x0⟩ : Dy) fun x0 => bindO (spec_PointsRight N x0) fun r => k' [⟨.bool, .imm, r⟩] []) = _
  simp only [castDm_self]
  rw [e]
  rfl
def spec_l04Items.sk4 : Skel := ⟨[.pv (.sl 26 (.sl 2 (.int .i64))), .dead, .dead, .dead, .dead, .pv (.int .i64), .dead, .dead, .dead, .dead, .dead, .dead, .dead, .dead, .dead, .dead, .dead, .dead, .dead, .dead, .dead, .dead, .dead, .dead, .dead, .dead, .dead, .dead, .dead, .dead], []⟩
def spec_l04Items.xs4 : List XS := [⟨.exit 0, [], ⟨[.dead, .dead, .dead, .dead, .dead, .dead, .dead, .dead, .dead, .dead, .dead, .dead, .dead, .dead, .dead, .dead, .dead, .dead, .dead, .dead, .dead, .dead, .dead, .dead, .dead, .dead, .dead, .dead, .dead, .dead], []⟩⟩, ⟨.ret, [4], ⟨[.dead, .dead, .dead, .dead, .pv .bool, .dead, .dead, .dead, .dead, .dead, .dead, .dead, .dead, .dead, .dead, .dead, .dead, .dead, .dead, .dead, .dead, .dead, .dead, .dead, .dead, .dead, .dead, .dead, .dead, .dead], []⟩⟩]
noncomputable def spec_l04Items.con (N : Nat) : Con := { modes := [.v, .v], ptrs := [false], fn := fun ds k => match ds with | [d0, d1] => castDm (.sl 26 (.sl 2 (.int .i64))) .imm d0 fun x0 => castDm (.int .i64) .imm d1 fun x1 => bindO (spec_l04Items N x0 x1) fun r => k [⟨.bool, .imm, r⟩] [] | _ => none }
noncomputable def spec_l04Items.cfg (N : Nat) : Cfg := { ty := tys, keep := [27], flt := [], elm := [(22, (.own .imm)), (23, (.own (.own .imm))), (24, (.pr (.own (.own .imm)) .imm)), (25, (.pr (.own (.own .imm)) .imm)), (26, (.own .imm)), (27, (.pr (.own .imm) .imm)), (28, (.pr (.own .imm) .imm)), (31, (.pr (.pr (.own .imm) .imm) .imm)), (32, (.pr (.pr (.own .imm) .imm) .imm)), (45, (.pr (.pr (.own .imm) .imm) (.pr (.own .imm) .imm))), (46, (.pr (.pr (.own .imm) .imm) (.pr (.own .imm) .imm))), (54, (.pr (.own .imm) .imm)), (55, (.pr (.own .imm) .imm))], live := [(4, [0, 5, 23, 24, 25, 26, 27, 28])], ord := [], con := [((32, [.one]), spec_PointsRight.con N)], loops := [(4, loopCon N spec_l04Items.sk4 spec_l04Items.xs4 (fun {R} => spec_l04Items.l4 (R := R) N))], joins := [] }
theorem spec_l04Items.cons (N : Nat) : ConsOk Try.prog (spec_l04Items.cfg N).con := (consOk_cons (hb32) (spec_PointsRight.ok N) (spec_PointsRight.det N) consOk_nil)
theorem spec_l04Items.h4 {R : Type} (N : Nat) (d : spec_l04Items.sk4.D) (kn : spec_l04Items.sk4.D → Option R) (kx : XD spec_l04Items.xs4 → Option R) : roundK (spec_l04Items.cfg N) N (nthLoop (fnBody Try.f31) 0) spec_l04Items.sk4 spec_l04Items.xs4 d kn kx = spec_l04Items.l4 N d kn kx := by kernel_rfl
theorem spec_l04Items.i4 (N : Nat) : LoopsOk Try.prog (spec_l04Items.cfg N) (nthLoop (fnBody Try.f31) 0) := loopsL (l := []) (by kernel_rfl) trivial
theorem spec_l04Items.o4 (N : Nat) : LoopOk Try.prog (nthLoop (fnBody Try.f31) 0) (loopCon N spec_l04Items.sk4 spec_l04Items.xs4 (fun {R} => spec_l04Items.l4 (R := R) N)) := loop_ok (g := spec_l04Items.cfg N) tys_ok (spec_l04Items.cons N) mixed (spec_l04Items.i4 N) (fun d kn kx => spec_l04Items.h4 N d kn kx)
theorem spec_l04Items.ls (N : Nat) : LoopsOk Try.prog (spec_l04Items.cfg N) (fnBody Try.f31) := loopsL (l := [nthLoop (fnBody Try.f31) 0]) (by kernel_rfl) ⟨loopOne (L0 := loopCon N spec_l04Items.sk4 spec_l04Items.xs4 (fun {R} => spec_l04Items.l4 (R := R) N)) (id := 4) (by kernel_rfl) (by kernel_rfl) (spec_l04Items.o4 N), trivial⟩
theorem spec_l04Items.q4 {R R' : Type} {N n : Nat} {d} {k} {g : R → Option R'} : bindF (loopP (spec_l04Items.l4 N) n d k) g = loopP (spec_l04Items.l4 N) n d fun e => bindF (k e) g := bindF_loopP (fun d kn kx => by simp only [spec_l04Items.l4, bindF_ifB, bindF_bindO, bindF_pure, bindF_none, bindF_onSum]) n d k
theorem spec_l04Items.b (N : Nat) (x0 : den (.sl 26 (.sl 2 (.int .i64)))) (x1 : den (.int .i64)) : body (spec_l04Items.cfg N) N Try.f31 [.one, .one] [.v, .v] [(false, .imm)] [⟨(.sl 26 (.sl 2 (.int .i64))), .imm, x0⟩, ⟨(.int .i64), .imm, x1⟩] (fun r i => some (r, i)) = bindO (spec_l04Items N x0 x1) fun r => some ([⟨.bool, .imm, r⟩], []) := by
  show _ = bindF _ _
  conv => rhs; simp only [spec_l04Items, bindF_ifB, bindF_bindO, bindF_pure, bindF_none, bindF_onSum, spec_l04Items.q4]
  kernel_rfl
theorem spec_l04Items.ok (N : Nat) : ConOk Try.prog 31 [.one, .one] (spec_l04Items.con N) := by
  refine conOk_mk (g := spec_l04Items.cfg N) (N := N) (res := [(false, .imm)]) tys_ok (spec_l04Items.cons N) mixed Try.func31 (spec_l04Items.ls N) rfl rfl ?_
  intro ds R k y h
  cases ds with
  | nil => exact none_some h
  | cons d0 ds =>
  cases ds with
  | nil => exact none_some h
  | cons d1 ds =>
  cases ds with
  | cons _ _ => exact none_some h
  | nil =>
  have h0 : (castDm (.sl 26 (.sl 2 (.int .i64))) .imm d0 fun x0 => castDm (.int .i64) .imm d1 fun x1 => bindO (spec_l04Items N x0 x1) fun r => k [⟨.bool, .imm, r⟩] []) = some y := h
  clear h
  obtain ⟨x0, rfl, h1⟩ := castDm_eq h0
  obtain ⟨x1, rfl, h2⟩ := castDm_eq h1
  exact con_fin (spec_l04Items.b N x0 x1) h2
theorem spec_l04Items.det (N : Nat) : ConDet (spec_l04Items.con N) := by
  intro ds R k y h
  cases ds with
  | nil => exact none_some h
  | cons d0 ds =>
  cases ds with
  | nil => exact none_some h
  | cons d1 ds =>
  cases ds with
  | cons _ _ => exact none_some h
  | nil =>
  have h0 : (castDm (.sl 26 (.sl 2 (.int .i64))) .imm d0 fun x0 => castDm (.int .i64) .imm d1 fun x1 => bindO (spec_l04Items N x0 x1) fun r => k [⟨.bool, .imm, r⟩] []) = some y := h
  clear h
  obtain ⟨x0, rfl, h1⟩ := castDm_eq h0
  obtain ⟨x1, rfl, h2⟩ := castDm_eq h1
  obtain ⟨r, e, h⟩ := bindO_some h2
  refine ⟨_, _, h, fun k' => ?_⟩
  show (castDm (.sl 26 (.sl 2 (.int .i64))) .imm (⟨(.sl 26 (.sl 2 (.int .i64))), .imm, x0⟩ : Dy) fun x0 => castDm (.int .i64) .imm (⟨(.int .i64), .imm, x1⟩ : Dy) fun x1 => bindO (spec_l04Items N x0 x1) fun r => k' [⟨.bool, .imm, r⟩] []) = _
  simp only [castDm_self]
  rw [e]
  rfl
noncomputable def spec_RingRight.con (N : Nat) : Con := { modes := [.v], ptrs := [false], fn := fun ds k => match ds with | [d0] => castDm (.pair (.sl 26 (.sl 2 (.int .i64))) (.pair (.int .i64) .unit)) .imm d0 fun x0 => bindO (spec_RingRight N x0) fun r => k [⟨.bool, .imm, r⟩] [] | _ => none }
noncomputable def spec_RingRight.cfg (N : Nat) : Cfg := { ty := tys, keep := [5], flt := [], elm := [(22, (.own .imm)), (23, (.own (.own .imm))), (24, (.pr (.own (.own .imm)) .imm)), (25, (.pr (.own (.own .imm)) .imm)), (26, (.own .imm)), (27, (.pr (.own .imm) .imm)), (28, (.pr (.own .imm) .imm)), (31, (.pr (.pr (.own .imm) .imm) .imm)), (32, (.pr (.pr (.own .imm) .imm) .imm)), (45, (.pr (.pr (.own .imm) .imm) (.pr (.own .imm) .imm))), (46, (.pr (.pr (.own .imm) .imm) (.pr (.own .imm) .imm))), (54, (.pr (.own .imm) .imm)), (55, (.pr (.own .imm) .imm))], live := [], ord := [], con := [((31, [.one, .one]), spec_l04Items.con N)], loops := [], joins := [] }
theorem spec_RingRight.cons (N : Nat) : ConsOk Try.prog (spec_RingRight.cfg N).con := (consOk_cons (hb31) (spec_l04Items.ok N) (spec_l04Items.det N) consOk_nil)
theorem spec_RingRight.ls (N : Nat) : LoopsOk Try.prog (spec_RingRight.cfg N) (fnBody Try.f15) := loopsL (l := []) (by kernel_rfl) trivial
theorem spec_RingRight.b (N : Nat) (x0 : den (.pair (.sl 26 (.sl 2 (.int .i64))) (.pair (.int .i64) .unit))) : body (spec_RingRight.cfg N) N Try.f15 [.one] [.v] [(false, .imm)] [⟨(.pair (.sl 26 (.sl 2 (.int .i64))) (.pair (.int .i64) .unit)), .imm, x0⟩] (fun r i => some (r, i)) = bindO (spec_RingRight N x0) fun r => some ([⟨.bool, .imm, r⟩], []) := by
  show _ = bindF _ _
  conv => rhs; simp only [spec_RingRight, bindF_ifB, bindF_bindO, bindF_pure, bindF_none, bindF_onSum]
  kernel_rfl
theorem spec_RingRight.ok (N : Nat) : ConOk Try.prog 15 [.one] (spec_RingRight.con N) := by
  refine conOk_mk (g := spec_RingRight.cfg N) (N := N) (res := [(false, .imm)]) tys_ok (spec_RingRight.cons N) mixed Try.func15 (spec_RingRight.ls N) rfl rfl ?_
  intro ds R k y h
  cases ds with
  | nil => exact none_some h
  | cons d0 ds =>
  cases ds with
  | cons _ _ => exact none_some h
  | nil =>
  have h0 : (castDm (.pair (.sl 26 (.sl 2 (.int .i64))) (.pair (.int .i64) .unit)) .imm d0 fun x0 => bindO (spec_RingRight N x0) fun r => k [⟨.bool, .imm, r⟩] []) = some y := h
  clear h
  obtain ⟨x0, rfl, h1⟩ := castDm_eq h0
  exact con_fin (spec_RingRight.b N x0) h1
theorem spec_RingRight.det (N : Nat) : ConDet (spec_RingRight.con N) := by
  intro ds R k y h
  cases ds with
  | nil => exact none_some h
  | cons d0 ds =>
  cases ds with
  | cons _ _ => exact none_some h
  | nil =>
  have h0 : (castDm (.pair (.sl 26 (.sl 2 (.int .i64))) (.pair (.int .i64) .unit)) .imm d0 fun x0 => bindO (spec_RingRight N x0) fun r => k [⟨.bool, .imm, r⟩] []) = some y := h
  clear h
  obtain ⟨x0, rfl, h1⟩ := castDm_eq h0
  obtain ⟨r, e, h⟩ := bindO_some h1
  refine ⟨_, _, h, fun k' => ?_⟩
  show (castDm (.pair (.sl 26 (.sl 2 (.int .i64))) (.pair (.int .i64) .unit)) .imm (⟨(.pair (.sl 26 (.sl 2 (.int .i64))) (.pair (.int .i64) .unit)), .imm, x0⟩ : Dy) fun x0 => bindO (spec_RingRight N x0) fun r => k' [⟨.bool, .imm, r⟩] []) = _
  simp only [castDm_self]
  rw [e]
  rfl
end Go.AE.F
