/- The printed functions are what the program comes to: contracts. -/
import Derived.Test.YthgioennnahilaaF6
import Derived.Test.YthgioennnahilaaLCompleteT
namespace Go.AE.F
open Go.AE Go.Proofs
set_option maxRecDepth 100000
def spec_l01Source.sk3 : Skel := ⟨[.pv (.sl 5 (.int .u8)), .dead, .dead, .ptr 50 [], .pv (.int .i64), .dead, .dead, .dead, .dead, .dead, .dead, .dead, .dead, .dead, .dead, .dead, .dead, .dead, .dead, .dead, .dead, .dead, .dead, .dead, .dead, .dead, .dead, .dead, .dead, .dead, .dead, .dead, .dead, .dead, .dead, .dead, .dead, .dead, .dead, .dead, .dead, .dead, .dead, .dead, .dead, .dead, .dead], [⟨50, (.pair (.sl 5 (.int .u8)) (.pair (.int .i64) (.pair (.int .u64) (.pair (.int .i64) .unit)))), .imm, true, false⟩]⟩
def spec_l01Source.xs3 : List XS := [⟨.exit 0, [0, 3], ⟨[.pv (.sl 5 (.int .u8)), .dead, .dead, .ptr 50 [], .dead, .dead, .dead, .dead, .dead, .dead, .dead, .dead, .dead, .dead, .dead, .dead, .dead, .dead, .dead, .dead, .dead, .dead, .dead, .dead, .dead, .dead, .dead, .dead, .dead, .dead, .dead, .dead, .dead, .dead, .dead, .dead, .dead, .dead, .dead, .dead, .dead, .dead, .dead, .dead, .dead, .dead, .dead], [⟨50, (.pair (.sl 5 (.int .u8)) (.pair (.int .i64) (.pair (.int .u64) (.pair (.int .i64) .unit)))), .imm, true, false⟩]⟩⟩]
noncomputable def spec_l01Source.con (N : Nat) : Con := { modes := [.v], ptrs := [true], fn := fun ds k => match ds with | [d0] => castDm (.sl 5 (.int .u8)) .imm d0 fun x0 => bindO (spec_l01Source N x0) fun r => k [⟨(.pair (.sl 5 (.int .u8)) (.pair (.int .i64) (.pair (.int .u64) (.pair (.int .i64) .unit)))), .imm, r⟩] [] | _ => none }
noncomputable def spec_l01Source.cfg (N : Nat) : Cfg := { ty := tys, keep := [], flt := [], elm := [(22, (.own .imm)), (23, (.own (.own .imm))), (24, (.own .imm)), (43, (.pr (.own .imm) .imm)), (44, (.pr (.own .imm) .imm)), (48, (.own .imm))], live := [(3, [0, 3, 4, 13, 14])], ord := [(5, [0, 1, 2, 3, 4, 5, 6, 7, 8, 9, 10, 11, 12, 13, 14])], con := [], loops := [(3, loopCon N spec_l01Source.sk3 spec_l01Source.xs3 (fun {R} => spec_l01Source.l3 (R := R) N))], joins := [] }
theorem spec_l01Source.cons (N : Nat) : ConsOk Try.prog (spec_l01Source.cfg N).con := consOk_nil
theorem spec_l01Source.h3 {R : Type} (N : Nat) (d : spec_l01Source.sk3.D) (kn : spec_l01Source.sk3.D → Option R) (kx : XD spec_l01Source.xs3 → Option R) : roundK (spec_l01Source.cfg N) N (nthLoop (fnBody Try.f14) 0) spec_l01Source.sk3 spec_l01Source.xs3 d kn kx = spec_l01Source.l3 N d kn kx := by kernel_rfl
theorem spec_l01Source.i3 (N : Nat) : LoopsOk Try.prog (spec_l01Source.cfg N) (nthLoop (fnBody Try.f14) 0) := loopsL (l := []) (by kernel_rfl) trivial
theorem spec_l01Source.o3 (N : Nat) : LoopOk Try.prog (nthLoop (fnBody Try.f14) 0) (loopCon N spec_l01Source.sk3 spec_l01Source.xs3 (fun {R} => spec_l01Source.l3 (R := R) N)) := loop_ok (g := spec_l01Source.cfg N) tys_ok (spec_l01Source.cons N) mixed (spec_l01Source.i3 N) (fun d kn kx => spec_l01Source.h3 N d kn kx)
theorem spec_l01Source.ls (N : Nat) : LoopsOk Try.prog (spec_l01Source.cfg N) (fnBody Try.f14) := loopsL (l := [nthLoop (fnBody Try.f14) 0]) (by kernel_rfl) ⟨loopOne (L0 := loopCon N spec_l01Source.sk3 spec_l01Source.xs3 (fun {R} => spec_l01Source.l3 (R := R) N)) (id := 3) (by kernel_rfl) (by kernel_rfl) (spec_l01Source.o3 N), trivial⟩
theorem spec_l01Source.q3 {R R' : Type} {N n : Nat} {d} {k} {g : R → Option R'} : bindF (loopP (spec_l01Source.l3 N) n d k) g = loopP (spec_l01Source.l3 N) n d fun e => bindF (k e) g := bindF_loopP (fun d kn kx => by simp only [spec_l01Source.l3, bindF_ifB, bindF_bindO, bindF_pure, bindF_none, bindF_onSum]) n d k
theorem spec_l01Source.b (N : Nat) (x0 : den (.sl 5 (.int .u8))) : body (spec_l01Source.cfg N) N Try.f14 [.one] [.v] [(true, .imm)] [⟨(.sl 5 (.int .u8)), .imm, x0⟩] (fun r i => some (r, i)) = bindO (spec_l01Source N x0) fun r => some ([⟨(.pair (.sl 5 (.int .u8)) (.pair (.int .i64) (.pair (.int .u64) (.pair (.int .i64) .unit)))), .imm, r⟩], []) := by
  show _ = bindF _ _
  conv => rhs; simp only [spec_l01Source, bindF_ifB, bindF_bindO, bindF_pure, bindF_none, bindF_onSum, spec_l01Source.q3]
  kernel_rfl
theorem spec_l01Source.ok (N : Nat) : ConOk Try.prog 14 [.one] (spec_l01Source.con N) := by
  refine conOk_mk (g := spec_l01Source.cfg N) (N := N) (res := [(true, .imm)]) tys_ok (spec_l01Source.cons N) mixed Try.func14 (spec_l01Source.ls N) rfl rfl ?_
  intro ds R k y h
  cases ds with
  | nil => exact none_some h
  | cons d0 ds =>
  cases ds with
  | cons _ _ => exact none_some h
  | nil =>
  have h0 : (castDm (.sl 5 (.int .u8)) .imm d0 fun x0 => bindO (spec_l01Source N x0) fun r => k [⟨(.pair (.sl 5 (.int .u8)) (.pair (.int .i64) (.pair (.int .u64) (.pair (.int .i64) .unit)))), .imm, r⟩] []) = some y := h
  clear h
  obtain ⟨x0, rfl, h1⟩ := castDm_eq h0
  exact con_fin (spec_l01Source.b N x0) h1
theorem spec_l01Source.det (N : Nat) : ConDet (spec_l01Source.con N) := by
  intro ds R k y h
  cases ds with
  | nil => exact none_some h
  | cons d0 ds =>
  cases ds with
  | cons _ _ => exact none_some h
  | nil =>
  have h0 : (castDm (.sl 5 (.int .u8)) .imm d0 fun x0 => bindO (spec_l01Source N x0) fun r => k [⟨(.pair (.sl 5 (.int .u8)) (.pair (.int .i64) (.pair (.int .u64) (.pair (.int .i64) .unit)))), .imm, r⟩] []) = some y := h
  clear h
  obtain ⟨x0, rfl, h1⟩ := castDm_eq h0
  obtain ⟨r, e, h⟩ := bindO_some h1
  refine ⟨_, _, h, fun k' => ?_⟩
  show (castDm (.sl 5 (.int .u8)) .imm (⟨(.sl 5 (.int .u8)), .imm, x0⟩ : Dy) fun x0 => bindO (spec_l01Source N x0) fun r => k' [⟨(.pair (.sl 5 (.int .u8)) (.pair (.int .i64) (.pair (.int .u64) (.pair (.int .i64) .unit)))), .imm, r⟩] []) = _
  simp only [castDm_self]
  rw [e]
  rfl
noncomputable def spec_l01Src_n.con (N : Nat) : Con := { modes := [.io, .v], ptrs := [false], fn := fun ds k => match ds with | [d0, d1] => castDm (.pair (.sl 5 (.int .u8)) (.pair (.int .i64) (.pair (.int .u64) (.pair (.int .i64) .unit)))) .imm d0 fun x0 => castDm (.int .i64) .imm d1 fun x1 => bindO (spec_l01Src_n N x0 x1) fun r => k [⟨(.int .i64), .imm, r.1⟩] [⟨(.pair (.sl 5 (.int .u8)) (.pair (.int .i64) (.pair (.int .u64) (.pair (.int .i64) .unit)))), .imm, r.2⟩] | _ => none }
noncomputable def spec_l01Src_n.cfg (N : Nat) : Cfg := { ty := tys, keep := [], flt := [], elm := [(22, (.own .imm)), (23, (.own (.own .imm))), (24, (.own .imm)), (43, (.pr (.own .imm) .imm)), (44, (.pr (.own .imm) .imm)), (48, (.own .imm))], live := [], ord := [(4, [0, 1, 2, 3, 4, 5, 6, 7, 8, 9]), (5, [0, 1, 2, 3, 4, 5, 6, 7, 8, 9, 10, 11]), (7, [0, 1, 2, 3, 4, 5, 6, 7, 8, 9, 10, 11, 12, 13]), (8, [0, 1, 2, 3, 4, 5, 6, 7, 8, 9, 10, 11, 12, 13]), (9, [0, 1, 2, 3, 4, 5, 6, 7, 8, 9, 10, 11, 12, 13])], con := [], loops := [], joins := [] }
theorem spec_l01Src_n.cons (N : Nat) : ConsOk Try.prog (spec_l01Src_n.cfg N).con := consOk_nil
theorem spec_l01Src_n.ls (N : Nat) : LoopsOk Try.prog (spec_l01Src_n.cfg N) (fnBody Try.f28) := loopsL (l := []) (by kernel_rfl) trivial
theorem spec_l01Src_n.b (N : Nat) (x0 : den (.pair (.sl 5 (.int .u8)) (.pair (.int .i64) (.pair (.int .u64) (.pair (.int .i64) .unit))))) (x1 : den (.int .i64)) : body (spec_l01Src_n.cfg N) N Try.f28 [.one, .one] [.io, .v] [(false, .imm)] [⟨(.pair (.sl 5 (.int .u8)) (.pair (.int .i64) (.pair (.int .u64) (.pair (.int .i64) .unit)))), .imm, x0⟩, ⟨(.int .i64), .imm, x1⟩] (fun r i => some (r, i)) = bindO (spec_l01Src_n N x0 x1) fun r => some ([⟨(.int .i64), .imm, r.1⟩], [⟨(.pair (.sl 5 (.int .u8)) (.pair (.int .i64) (.pair (.int .u64) (.pair (.int .i64) .unit)))), .imm, r.2⟩]) := by
  show _ = bindF _ _
  conv => rhs; simp only [spec_l01Src_n, bindF_ifB, bindF_bindO, bindF_pure, bindF_none, bindF_onSum]
  kernel_rfl
theorem spec_l01Src_n.ok (N : Nat) : ConOk Try.prog 28 [.one, .one] (spec_l01Src_n.con N) := by
  refine conOk_mk (g := spec_l01Src_n.cfg N) (N := N) (res := [(false, .imm)]) tys_ok (spec_l01Src_n.cons N) mixed Try.func28 (spec_l01Src_n.ls N) rfl rfl ?_
  intro ds R k y h
  cases ds with
  | nil => exact none_some h
  | cons d0 ds =>
  cases ds with
  | nil => exact none_some h
  | cons d1 ds =>
  cases ds with
  | cons _ _ => exact none_some h
  | nil =>
  have h0 : (castDm (.pair (.sl 5 (.int .u8)) (.pair (.int .i64) (.pair (.int .u64) (.pair (.int .i64) .unit)))) .imm d0 fun x0 => castDm (.int .i64) .imm d1 fun x1 => bindO (spec_l01Src_n N x0 x1) fun r => k [⟨(.int .i64), .imm, r.1⟩] [⟨(.pair (.sl 5 (.int .u8)) (.pair (.int .i64) (.pair (.int .u64) (.pair (.int .i64) .unit)))), .imm, r.2⟩]) = some y := h
  clear h
  obtain ⟨x0, rfl, h1⟩ := castDm_eq h0
  obtain ⟨x1, rfl, h2⟩ := castDm_eq h1
  exact con_fin (spec_l01Src_n.b N x0 x1) h2
theorem spec_l01Src_n.det (N : Nat) : ConDet (spec_l01Src_n.con N) := by
  intro ds R k y h
  cases ds with
  | nil => exact none_some h
  | cons d0 ds =>
  cases ds with
  | nil => exact none_some h
  | cons d1 ds =>
  cases ds with
  | cons _ _ => exact none_some h
  | nil =>
  have h0 : (castDm (.pair (.sl 5 (.int .u8)) (.pair (.int .i64) (.pair (.int .u64) (.pair (.int .i64) .unit)))) .imm d0 fun x0 => castDm (.int .i64) .imm d1 fun x1 => bindO (spec_l01Src_n N x0 x1) fun r => k [⟨(.int .i64), .imm, r.1⟩] [⟨(.pair (.sl 5 (.int .u8)) (.pair (.int .i64) (.pair (.int .u64) (.pair (.int .i64) .unit)))), .imm, r.2⟩]) = some y := h
  clear h
  obtain ⟨x0, rfl, h1⟩ := castDm_eq h0
  obtain ⟨x1, rfl, h2⟩ := castDm_eq h1
  obtain ⟨r, e, h⟩ := bindO_some h2
  refine ⟨_, _, h, fun k' => ?_⟩
  show (castDm (.pair (.sl 5 (.int .u8)) (.pair (.int .i64) (.pair (.int .u64) (.pair (.int .i64) .unit)))) .imm (⟨(.pair (.sl 5 (.int .u8)) (.pair (.int .i64) (.pair (.int .u64) (.pair (.int .i64) .unit)))), .imm, x0⟩ : Dy) fun x0 => castDm (.int .i64) .imm (⟨(.int .i64), .imm, x1⟩ : Dy) fun x1 => bindO (spec_l01Src_n N x0 x1) fun r => k' [⟨(.int .i64), .imm, r.1⟩] [⟨(.pair (.sl 5 (.int .u8)) (.pair (.int .i64) (.pair (.int .u64) (.pair (.int .i64) .unit)))), .imm, r.2⟩]) = _
  simp only [castDm_self]
  rw [e]
  rfl
noncomputable def spec_l01Src_one.con (N : Nat) : Con := { modes := [.io, .v], ptrs := [false], fn := fun ds k => match ds with | [d0, d1] => castDm (.pair (.sl 5 (.int .u8)) (.pair (.int .i64) (.pair (.int .u64) (.pair (.int .i64) .unit)))) .imm d0 fun x0 => castDm (.int .i64) .imm d1 fun x1 => bindO (spec_l01Src_one N x0 x1) fun r => k [⟨.bool, .imm, r.1⟩] [⟨(.pair (.sl 5 (.int .u8)) (.pair (.int .i64) (.pair (.int .u64) (.pair (.int .i64) .unit)))), .imm, r.2⟩] | _ => none }
noncomputable def spec_l01Src_one.cfg (N : Nat) : Cfg := { ty := tys, keep := [7], flt := [], elm := [(22, (.own .imm)), (23, (.own (.own .imm))), (24, (.own .imm)), (43, (.pr (.own .imm) .imm)), (44, (.pr (.own .imm) .imm)), (48, (.own .imm))], live := [], ord := [], con := [((28, [.one, .one]), spec_l01Src_n.con N)], loops := [], joins := [] }
theorem spec_l01Src_one.cons (N : Nat) : ConsOk Try.prog (spec_l01Src_one.cfg N).con := (consOk_cons (hb28) (spec_l01Src_n.ok N) (spec_l01Src_n.det N) consOk_nil)
theorem spec_l01Src_one.ls (N : Nat) : LoopsOk Try.prog (spec_l01Src_one.cfg N) (fnBody Try.f29) := loopsL (l := []) (by kernel_rfl) trivial
theorem spec_l01Src_one.b (N : Nat) (x0 : den (.pair (.sl 5 (.int .u8)) (.pair (.int .i64) (.pair (.int .u64) (.pair (.int .i64) .unit))))) (x1 : den (.int .i64)) : body (spec_l01Src_one.cfg N) N Try.f29 [.one, .one] [.io, .v] [(false, .imm)] [⟨(.pair (.sl 5 (.int .u8)) (.pair (.int .i64) (.pair (.int .u64) (.pair (.int .i64) .unit)))), .imm, x0⟩, ⟨(.int .i64), .imm, x1⟩] (fun r i => some (r, i)) = bindO (spec_l01Src_one N x0 x1) fun r => some ([⟨.bool, .imm, r.1⟩], [⟨(.pair (.sl 5 (.int .u8)) (.pair (.int .i64) (.pair (.int .u64) (.pair (.int .i64) .unit)))), .imm, r.2⟩]) := by
  show _ = bindF _ _
  conv => rhs; simp only [spec_l01Src_one, bindF_ifB, bindF_bindO, bindF_pure, bindF_none, bindF_onSum]
  kernel_rfl
theorem spec_l01Src_one.ok (N : Nat) : ConOk Try.prog 29 [.one, .one] (spec_l01Src_one.con N) := by
  refine conOk_mk (g := spec_l01Src_one.cfg N) (N := N) (res := [(false, .imm)]) tys_ok (spec_l01Src_one.cons N) mixed Try.func29 (spec_l01Src_one.ls N) rfl rfl ?_
  intro ds R k y h
  cases ds with
  | nil => exact none_some h
  | cons d0 ds =>
  cases ds with
  | nil => exact none_some h
  | cons d1 ds =>
  cases ds with
  | cons _ _ => exact none_some h
  | nil =>
  have h0 : (castDm (.pair (.sl 5 (.int .u8)) (.pair (.int .i64) (.pair (.int .u64) (.pair (.int .i64) .unit)))) .imm d0 fun x0 => castDm (.int .i64) .imm d1 fun x1 => bindO (spec_l01Src_one N x0 x1) fun r => k [⟨.bool, .imm, r.1⟩] [⟨(.pair (.sl 5 (.int .u8)) (.pair (.int .i64) (.pair (.int .u64) (.pair (.int .i64) .unit)))), .imm, r.2⟩]) = some y := h
  clear h
  obtain ⟨x0, rfl, h1⟩ := castDm_eq h0
  obtain ⟨x1, rfl, h2⟩ := castDm_eq h1
  exact con_fin (spec_l01Src_one.b N x0 x1) h2
theorem spec_l01Src_one.det (N : Nat) : ConDet (spec_l01Src_one.con N) := by
  intro ds R k y h
  cases ds with
  | nil => exact none_some h
  | cons d0 ds =>
  cases ds with
  | nil => exact none_some h
  | cons d1 ds =>
  cases ds with
  | cons _ _ => exact none_some h
  | nil =>
  have h0 : (castDm (.pair (.sl 5 (.int .u8)) (.pair (.int .i64) (.pair (.int .u64) (.pair (.int .i64) .unit)))) .imm d0 fun x0 => castDm (.int .i64) .imm d1 fun x1 => bindO (spec_l01Src_one N x0 x1) fun r => k [⟨.bool, .imm, r.1⟩] [⟨(.pair (.sl 5 (.int .u8)) (.pair (.int .i64) (.pair (.int .u64) (.pair (.int .i64) .unit)))), .imm, r.2⟩]) = some y := h
  clear h
  obtain ⟨x0, rfl, h1⟩ := castDm_eq h0
  obtain ⟨x1, rfl, h2⟩ := castDm_eq h1
  obtain ⟨r, e, h⟩ := bindO_some h2
  refine ⟨_, _, h, fun k' => ?_⟩
  show (castDm (.pair (.sl 5 (.int .u8)) (.pair (.int .i64) (.pair (.int .u64) (.pair (.int .i64) .unit)))) .imm (⟨(.pair (.sl 5 (.int .u8)) (.pair (.int .i64) (.pair (.int .u64) (.pair (.int .i64) .unit)))), .imm, x0⟩ : Dy) fun x0 => castDm (.int .i64) .imm (⟨(.int .i64), .imm, x1⟩ : Dy) fun x1 => bindO (spec_l01Src_one N x0 x1) fun r => k' [⟨.bool, .imm, r.1⟩] [⟨(.pair (.sl 5 (.int .u8)) (.pair (.int .i64) (.pair (.int .u64) (.pair (.int .i64) .unit)))), .imm, r.2⟩]) = _
  simp only [castDm_self]
  rw [e]
  rfl
noncomputable def spec_l01Src_pick.con (N : Nat) : Con := { modes := [.io, .v], ptrs := [false], fn := fun ds k => match ds with | [d0, d1] => castDm (.pair (.sl 5 (.int .u8)) (.pair (.int .i64) (.pair (.int .u64) (.pair (.int .i64) .unit)))) .imm d0 fun x0 => castDm (.sl 9 .str) .imm d1 fun x1 => bindO (spec_l01Src_pick N x0 x1) fun r => k [⟨.str, .imm, r.1⟩] [⟨(.pair (.sl 5 (.int .u8)) (.pair (.int .i64) (.pair (.int .u64) (.pair (.int .i64) .unit)))), .imm, r.2⟩] | _ => none }
noncomputable def spec_l01Src_pick.cfg (N : Nat) : Cfg := { ty := tys, keep := [9], flt := [], elm := [(22, (.own .imm)), (23, (.own (.own .imm))), (24, (.own .imm)), (43, (.pr (.own .imm) .imm)), (44, (.pr (.own .imm) .imm)), (48, (.own .imm))], live := [], ord := [], con := [((28, [.one, .one]), spec_l01Src_n.con N)], loops := [], joins := [] }
theorem spec_l01Src_pick.cons (N : Nat) : ConsOk Try.prog (spec_l01Src_pick.cfg N).con := (consOk_cons (hb28) (spec_l01Src_n.ok N) (spec_l01Src_n.det N) consOk_nil)
theorem spec_l01Src_pick.ls (N : Nat) : LoopsOk Try.prog (spec_l01Src_pick.cfg N) (fnBody Try.f32) := loopsL (l := []) (by kernel_rfl) trivial
theorem spec_l01Src_pick.b (N : Nat) (x0 : den (.pair (.sl 5 (.int .u8)) (.pair (.int .i64) (.pair (.int .u64) (.pair (.int .i64) .unit))))) (x1 : den (.sl 9 .str)) : body (spec_l01Src_pick.cfg N) N Try.f32 [.one, .one] [.io, .v] [(false, .imm)] [⟨(.pair (.sl 5 (.int .u8)) (.pair (.int .i64) (.pair (.int .u64) (.pair (.int .i64) .unit)))), .imm, x0⟩, ⟨(.sl 9 .str), .imm, x1⟩] (fun r i => some (r, i)) = bindO (spec_l01Src_pick N x0 x1) fun r => some ([⟨.str, .imm, r.1⟩], [⟨(.pair (.sl 5 (.int .u8)) (.pair (.int .i64) (.pair (.int .u64) (.pair (.int .i64) .unit)))), .imm, r.2⟩]) := by
  show _ = bindF _ _
  conv => rhs; simp only [spec_l01Src_pick, bindF_ifB, bindF_bindO, bindF_pure, bindF_none, bindF_onSum]
  kernel_rfl
theorem spec_l01Src_pick.ok (N : Nat) : ConOk Try.prog 32 [.one, .one] (spec_l01Src_pick.con N) := by
  refine conOk_mk (g := spec_l01Src_pick.cfg N) (N := N) (res := [(false, .imm)]) tys_ok (spec_l01Src_pick.cons N) mixed Try.func32 (spec_l01Src_pick.ls N) rfl rfl ?_
  intro ds R k y h
  cases ds with
  | nil => exact none_some h
  | cons d0 ds =>
  cases ds with
  | nil => exact none_some h
  | cons d1 ds =>
  cases ds with
  | cons _ _ => exact none_some h
  | nil =>
  have h0 : (castDm (.pair (.sl 5 (.int .u8)) (.pair (.int .i64) (.pair (.int .u64) (.pair (.int .i64) .unit)))) .imm d0 fun x0 => castDm (.sl 9 .str) .imm d1 fun x1 => bindO (spec_l01Src_pick N x0 x1) fun r => k [⟨.str, .imm, r.1⟩] [⟨(.pair (.sl 5 (.int .u8)) (.pair (.int .i64) (.pair (.int .u64) (.pair (.int .i64) .unit)))), .imm, r.2⟩]) = some y := h
  clear h
  obtain ⟨x0, rfl, h1⟩ := castDm_eq h0
  obtain ⟨x1, rfl, h2⟩ := castDm_eq h1
  exact con_fin (spec_l01Src_pick.b N x0 x1) h2
theorem spec_l01Src_pick.det (N : Nat) : ConDet (spec_l01Src_pick.con N) := by
  intro ds R k y h
  cases ds with
  | nil => exact none_some h
  | cons d0 ds =>
  cases ds with
  | nil => exact none_some h
  | cons d1 ds =>
  cases ds with
  | cons _ _ => exact none_some h
  | nil =>
  have h0 : (castDm (.pair (.sl 5 (.int .u8)) (.pair (.int .i64) (.pair (.int .u64) (.pair (.int .i64) .unit)))) .imm d0 fun x0 => castDm (.sl 9 .str) .imm d1 fun x1 => bindO (spec_l01Src_pick N x0 x1) fun r => k [⟨.str, .imm, r.1⟩] [⟨(.pair (.sl 5 (.int .u8)) (.pair (.int .i64) (.pair (.int .u64) (.pair (.int .i64) .unit)))), .imm, r.2⟩]) = some y := h
  clear h
  obtain ⟨x0, rfl, h1⟩ := castDm_eq h0
  obtain ⟨x1, rfl, h2⟩ := castDm_eq h1
  obtain ⟨r, e, h⟩ := bindO_some h2
  refine ⟨_, _, h, fun k' => ?_⟩
  show (castDm (.pair (.sl 5 (.int .u8)) (.pair (.int .i64) (.pair (.int .u64) (.pair (.int .i64) .unit)))) .imm (⟨(.pair (.sl 5 (.int .u8)) (.pair (.int .i64) (.pair (.int .u64) (.pair (.int .i64) .unit)))), .imm, x0⟩ : Dy) fun x0 => castDm (.sl 9 .str) .imm (⟨(.sl 9 .str), .imm, x1⟩ : Dy) fun x1 => bindO (spec_l01Src_pick N x0 x1) fun r => k' [⟨.str, .imm, r.1⟩] [⟨(.pair (.sl 5 (.int .u8)) (.pair (.int .i64) (.pair (.int .u64) (.pair (.int .i64) .unit)))), .imm, r.2⟩]) = _
  simp only [castDm_self]
  rw [e]
  rfl
noncomputable def spec_l01Point.con (N : Nat) : Con := { modes := [.v], ptrs := [false], fn := fun ds k => match ds with | [d0] => castDm (.int .i64) .imm d0 fun x0 => bindO (spec_l01Point N x0) fun r => k [⟨.bool, .imm, r⟩] [] | _ => none }
noncomputable def spec_l01Point.cfg (N : Nat) : Cfg := { ty := tys, keep := [], flt := [], elm := [(22, (.own .imm)), (23, (.own (.own .imm))), (24, (.own .imm)), (43, (.pr (.own .imm) .imm)), (44, (.pr (.own .imm) .imm)), (48, (.own .imm))], live := [], ord := [], con := [], loops := [], joins := [] }
theorem spec_l01Point.cons (N : Nat) : ConsOk Try.prog (spec_l01Point.cfg N).con := consOk_nil
theorem spec_l01Point.ls (N : Nat) : LoopsOk Try.prog (spec_l01Point.cfg N) (fnBody Try.f44) := loopsL (l := []) (by kernel_rfl) trivial
theorem spec_l01Point.b (N : Nat) (x0 : den (.int .i64)) : body (spec_l01Point.cfg N) N Try.f44 [.one] [.v] [(false, .imm)] [⟨(.int .i64), .imm, x0⟩] (fun r i => some (r, i)) = bindO (spec_l01Point N x0) fun r => some ([⟨.bool, .imm, r⟩], []) := by
  show _ = bindF _ _
  conv => rhs; simp only [spec_l01Point, bindF_ifB, bindF_bindO, bindF_pure, bindF_none, bindF_onSum]
  kernel_rfl
theorem spec_l01Point.ok (N : Nat) : ConOk Try.prog 44 [.one] (spec_l01Point.con N) := by
  refine conOk_mk (g := spec_l01Point.cfg N) (N := N) (res := [(false, .imm)]) tys_ok (spec_l01Point.cons N) mixed Try.func44 (spec_l01Point.ls N) rfl rfl ?_
  intro ds R k y h
  cases ds with
  | nil => exact none_some h
  | cons d0 ds =>
  cases ds with
  | cons _ _ => exact none_some h
  | nil =>
  have h0 : (castDm (.int .i64) .imm d0 fun x0 => bindO (spec_l01Point N x0) fun r => k [⟨.bool, .imm, r⟩] []) = some y := h
  clear h
  obtain ⟨x0, rfl, h1⟩ := castDm_eq h0
  exact con_fin (spec_l01Point.b N x0) h1
theorem spec_l01Point.det (N : Nat) : ConDet (spec_l01Point.con N) := by
  intro ds R k y h
  cases ds with
  | nil => exact none_some h
  | cons d0 ds =>
  cases ds with
  | cons _ _ => exact none_some h
  | nil =>
  have h0 : (castDm (.int .i64) .imm d0 fun x0 => bindO (spec_l01Point N x0) fun r => k [⟨.bool, .imm, r⟩] []) = some y := h
  clear h
  obtain ⟨x0, rfl, h1⟩ := castDm_eq h0
  obtain ⟨r, e, h⟩ := bindO_some h1
  refine ⟨_, _, h, fun k' => ?_⟩
  show (castDm (.int .i64) .imm (⟨(.int .i64), .imm, x0⟩ : Dy) fun x0 => bindO (spec_l01Point N x0) fun r => k' [⟨.bool, .imm, r⟩] []) = _
  simp only [castDm_self]
  rw [e]
  rfl
noncomputable def spec_l01Bytes.con (N : Nat) : Con := { modes := [.v], ptrs := [false], fn := fun ds k => match ds with | [d0] => castDm (.int .i64) .imm d0 fun x0 => bindO (spec_l01Bytes N x0) fun r => k [⟨(.sl 5 (.int .u8)), (.own .imm), r⟩] [] | _ => none }
noncomputable def spec_l01Bytes.cfg (N : Nat) : Cfg := { ty := tys, keep := [], flt := [], elm := [(22, (.own .imm)), (23, (.own (.own .imm))), (24, (.own .imm)), (43, (.pr (.own .imm) .imm)), (44, (.pr (.own .imm) .imm)), (48, (.own .imm))], live := [], ord := [], con := [], loops := [], joins := [] }
theorem spec_l01Bytes.cons (N : Nat) : ConsOk Try.prog (spec_l01Bytes.cfg N).con := consOk_nil
theorem spec_l01Bytes.ls (N : Nat) : LoopsOk Try.prog (spec_l01Bytes.cfg N) (fnBody Try.f50) := loopsL (l := []) (by kernel_rfl) trivial
theorem spec_l01Bytes.b (N : Nat) (x0 : den (.int .i64)) : body (spec_l01Bytes.cfg N) N Try.f50 [.one] [.v] [(false, (.own .imm))] [⟨(.int .i64), .imm, x0⟩] (fun r i => some (r, i)) = bindO (spec_l01Bytes N x0) fun r => some ([⟨(.sl 5 (.int .u8)), (.own .imm), r⟩], []) := by
  show _ = bindF _ _
  conv => rhs; simp only [spec_l01Bytes, bindF_ifB, bindF_bindO, bindF_pure, bindF_none, bindF_onSum]
  kernel_rfl
theorem spec_l01Bytes.ok (N : Nat) : ConOk Try.prog 50 [.one] (spec_l01Bytes.con N) := by
  refine conOk_mk (g := spec_l01Bytes.cfg N) (N := N) (res := [(false, (.own .imm))]) tys_ok (spec_l01Bytes.cons N) mixed Try.func50 (spec_l01Bytes.ls N) rfl rfl ?_
  intro ds R k y h
  cases ds with
  | nil => exact none_some h
  | cons d0 ds =>
  cases ds with
  | cons _ _ => exact none_some h
  | nil =>
  have h0 : (castDm (.int .i64) .imm d0 fun x0 => bindO (spec_l01Bytes N x0) fun r => k [⟨(.sl 5 (.int .u8)), (.own .imm), r⟩] []) = some y := h
  clear h
  obtain ⟨x0, rfl, h1⟩ := castDm_eq h0
  exact con_fin (spec_l01Bytes.b N x0) h1
theorem spec_l01Bytes.det (N : Nat) : ConDet (spec_l01Bytes.con N) := by
  intro ds R k y h
  cases ds with
  | nil => exact none_some h
  | cons d0 ds =>
  cases ds with
  | cons _ _ => exact none_some h
  | nil =>
  have h0 : (castDm (.int .i64) .imm d0 fun x0 => bindO (spec_l01Bytes N x0) fun r => k [⟨(.sl 5 (.int .u8)), (.own .imm), r⟩] []) = some y := h
  clear h
  obtain ⟨x0, rfl, h1⟩ := castDm_eq h0
  obtain ⟨r, e, h⟩ := bindO_some h1
  refine ⟨_, _, h, fun k' => ?_⟩
  show (castDm (.int .i64) .imm (⟨(.int .i64), .imm, x0⟩ : Dy) fun x0 => bindO (spec_l01Bytes N x0) fun r => k' [⟨(.sl 5 (.int .u8)), (.own .imm), r⟩] []) = _
  simp only [castDm_self]
  rw [e]
  rfl
def spec_l01First.sk18 : Skel := ⟨[.pv .str, .dead, .dead, .dead, .dead, .pv (.int .i64), .pv (.int .i64), .pv (.int .i64), .dead, .dead, .dead, .dead, .dead, .dead, .dead, .dead, .dead, .dead, .dead, .dead, .dead, .dead, .dead, .dead, .dead, .dead, .dead, .dead, .dead, .dead, .dead, .dead, .dead, .dead, .dead, .dead, .dead, .dead, .dead, .dead, .dead, .dead, .dead, .dead, .dead, .dead, .dead, .dead, .dead, .dead, .dead, .dead, .dead, .dead, .dead, .dead, .dead, .dead, .dead, .dead, .dead, .dead, .dead, .dead, .dead, .dead, .dead, .dead, .dead, .dead, .dead, .dead, .dead, .dead, .dead, .dead, .dead, .dead, .dead, .dead, .dead, .dead, .dead, .dead, .dead, .dead], []⟩
def spec_l01First.xs18 : List XS := [⟨.exit 1, [0, 5, 6, 76, 77, 78, 79, 80, 81, 82], ⟨[.pv .str, .dead, .dead, .dead, .dead, .pv (.int .i64), .pv (.int .i64), .dead, .dead, .dead, .dead, .dead, .dead, .dead, .dead, .dead, .dead, .dead, .dead, .dead, .dead, .dead, .dead, .dead, .dead, .dead, .dead, .dead, .dead, .dead, .dead, .dead, .dead, .dead, .dead, .dead, .dead, .dead, .dead, .dead, .dead, .dead, .dead, .dead, .dead, .dead, .dead, .dead, .dead, .dead, .dead, .dead, .dead, .dead, .dead, .dead, .dead, .dead, .dead, .dead, .dead, .dead, .dead, .dead, .dead, .dead, .dead, .dead, .dead, .dead, .dead, .dead, .dead, .dead, .dead, .dead, .dead, .dead, .dead, .dead, .dead, .dead, .dead, .dead, .dead, .dead], []⟩⟩, ⟨.ret, [2, 3], ⟨[.dead, .dead, .pv (.int .i64), .pv (.int .i64), .dead, .dead, .dead, .dead, .dead, .dead, .dead, .dead, .dead, .dead, .dead, .dead, .dead, .dead, .dead, .dead, .dead, .dead, .dead, .dead, .dead, .dead, .dead, .dead, .dead, .dead, .dead, .dead, .dead, .dead, .dead, .dead, .dead, .dead, .dead, .dead, .dead, .dead, .dead, .dead, .dead, .dead, .dead, .dead, .dead, .dead, .dead, .dead, .dead, .dead, .dead, .dead, .dead, .dead, .dead, .dead, .dead, .dead, .dead, .dead, .dead, .dead, .dead, .dead, .dead, .dead, .dead, .dead, .dead, .dead, .dead, .dead, .dead, .dead, .dead, .dead, .dead, .dead, .dead, .dead, .dead, .dead], []⟩⟩]
noncomputable def spec_l01First.con (N : Nat) : Con := { modes := [.v], ptrs := [false, false], fn := fun ds k => match ds with | [d0] => castDm .str .imm d0 fun x0 => bindO (spec_l01First N x0) fun r => k [⟨(.int .i64), .imm, r.1⟩, ⟨(.int .i64), .imm, r.2⟩] [] | _ => none }
noncomputable def spec_l01First.cfg (N : Nat) : Cfg := { ty := tys, keep := [73, 77], flt := [], elm := [(22, (.own .imm)), (23, (.own (.own .imm))), (24, (.own .imm)), (43, (.pr (.own .imm) .imm)), (44, (.pr (.own .imm) .imm)), (48, (.own .imm))], live := [(18, [0, 5, 6, 7, 59, 60, 61, 62, 76, 77, 78, 79, 80, 81, 82])], ord := [(23, [0, 1, 2, 3, 4, 7, 8, 9, 5, 6, 10, 11])], con := [((44, [.one]), spec_l01Point.con N), ((50, [.one]), spec_l01Bytes.con N)], loops := [(18, loopCon N spec_l01First.sk18 spec_l01First.xs18 (fun {R} => spec_l01First.l18 (R := R) N))], joins := [(15, [⟨.normal, [0, 5, 6, 44, 45, 46, 47, 59, 60, 61, 62, 76, 77, 78, 79, 80, 81, 82], ⟨[.pv .str, .dead, .dead, .dead, .dead, .pv (.int .i64), .pv (.int .i64), .dead, .dead, .dead, .dead, .dead, .dead, .dead, .dead, .dead, .dead, .dead, .dead, .dead, .dead, .dead, .dead, .dead, .dead, .dead, .dead, .dead, .dead, .dead, .dead, .dead, .dead, .dead, .dead, .dead, .dead, .dead, .dead, .dead, .dead, .dead, .dead, .dead, .dead, .dead, .dead, .dead, .dead, .dead, .dead, .dead, .dead, .dead, .dead, .dead, .dead, .dead, .dead, .dead, .dead, .dead, .dead, .dead, .dead, .dead, .dead, .dead, .dead, .dead, .dead, .dead, .dead, .dead, .dead, .dead, .dead, .dead, .dead, .dead, .dead, .dead, .dead, .dead, .dead, .dead], []⟩⟩])] }
theorem spec_l01First.cons (N : Nat) : ConsOk Try.prog (spec_l01First.cfg N).con := (consOk_cons (hb44) (spec_l01Point.ok N) (spec_l01Point.det N) (consOk_cons (hb50) (spec_l01Bytes.ok N) (spec_l01Bytes.det N) consOk_nil))
theorem spec_l01First.h18 {R : Type} (N : Nat) (d : spec_l01First.sk18.D) (kn : spec_l01First.sk18.D → Option R) (kx : XD spec_l01First.xs18 → Option R) : roundK (spec_l01First.cfg N) N (nthLoop (fnBody Try.f46) 0) spec_l01First.sk18 spec_l01First.xs18 d kn kx = spec_l01First.l18 N d kn kx := by kernel_rfl
theorem spec_l01First.i18 (N : Nat) : LoopsOk Try.prog (spec_l01First.cfg N) (nthLoop (fnBody Try.f46) 0) := loopsL (l := []) (by kernel_rfl) trivial
theorem spec_l01First.o18 (N : Nat) : LoopOk Try.prog (nthLoop (fnBody Try.f46) 0) (loopCon N spec_l01First.sk18 spec_l01First.xs18 (fun {R} => spec_l01First.l18 (R := R) N)) := loop_ok (g := spec_l01First.cfg N) tys_ok (spec_l01First.cons N) mixed (spec_l01First.i18 N) (fun d kn kx => spec_l01First.h18 N d kn kx)
theorem spec_l01First.ls (N : Nat) : LoopsOk Try.prog (spec_l01First.cfg N) (fnBody Try.f46) := loopsL (l := [nthLoop (fnBody Try.f46) 0]) (by kernel_rfl) ⟨loopOne (L0 := loopCon N spec_l01First.sk18 spec_l01First.xs18 (fun {R} => spec_l01First.l18 (R := R) N)) (id := 18) (by kernel_rfl) (by kernel_rfl) (spec_l01First.o18 N), trivial⟩
theorem spec_l01First.q18 {R R' : Type} {N n : Nat} {d} {k} {g : R → Option R'} : bindF (loopP (spec_l01First.l18 N) n d k) g = loopP (spec_l01First.l18 N) n d fun e => bindF (k e) g := bindF_loopP (fun d kn kx => by simp only [spec_l01First.l18, bindF_ifB, bindF_bindO, bindF_pure, bindF_none, bindF_onSum]) n d k
theorem spec_l01First.b (N : Nat) (x0 : den .str) : body (spec_l01First.cfg N) N Try.f46 [.one] [.v] [(false, .imm), (false, .imm)] [⟨.str, .imm, x0⟩] (fun r i => some (r, i)) = bindO (spec_l01First N x0) fun r => some ([⟨(.int .i64), .imm, r.1⟩, ⟨(.int .i64), .imm, r.2⟩], []) := by
  show _ = bindF _ _
  conv => rhs; simp only [spec_l01First, bindF_ifB, bindF_bindO, bindF_pure, bindF_none, bindF_onSum, spec_l01First.q18]
  kernel_rfl
theorem spec_l01First.ok (N : Nat) : ConOk Try.prog 46 [.one] (spec_l01First.con N) := by
  refine conOk_mk (g := spec_l01First.cfg N) (N := N) (res := [(false, .imm), (false, .imm)]) tys_ok (spec_l01First.cons N) mixed Try.func46 (spec_l01First.ls N) rfl rfl ?_
  intro ds R k y h
  cases ds with
  | nil => exact none_some h
  | cons d0 ds =>
  cases ds with
  | cons _ _ => exact none_some h
  | nil =>
  have h0 : (castDm .str .imm d0 fun x0 => bindO (spec_l01First N x0) fun r => k [⟨(.int .i64), .imm, r.1⟩, ⟨(.int .i64), .imm, r.2⟩] []) = some y := h
  clear h
  obtain ⟨x0, rfl, h1⟩ := castDm_eq h0
  exact con_fin (spec_l01First.b N x0) h1
theorem spec_l01First.det (N : Nat) : ConDet (spec_l01First.con N) := by
  intro ds R k y h
  cases ds with
  | nil => exact none_some h
  | cons d0 ds =>
  cases ds with
  | cons _ _ => exact none_some h
  | nil =>
  have h0 : (castDm .str .imm d0 fun x0 => bindO (spec_l01First N x0) fun r => k [⟨(.int .i64), .imm, r.1⟩, ⟨(.int .i64), .imm, r.2⟩] []) = some y := h
  clear h
  obtain ⟨x0, rfl, h1⟩ := castDm_eq h0
  obtain ⟨r, e, h⟩ := bindO_some h1
  refine ⟨_, _, h, fun k' => ?_⟩
  show (castDm .str .imm (⟨.str, .imm, x0⟩ : Dy) fun x0 => bindO (spec_l01First N x0) fun r => k' [⟨(.int .i64), .imm, r.1⟩, ⟨(.int .i64), .imm, r.2⟩] []) = _
  simp only [castDm_self]
  rw [e]
  rfl
def spec_l01Points.sk3 : Skel := ⟨[.pv .str, .dead, .dead, .ov 50 [], .pv (.int .i64), .dead, .dead, .dead, .dead, .dead, .dead, .dead, .dead, .dead, .dead, .dead, .dead, .dead, .dead, .dead, .dead, .dead, .dead, .dead, .dead, .dead, .dead], [⟨50, (.sl 2 (.int .i64)), (.own .imm), false, false⟩]⟩
def spec_l01Points.xs3 : List XS := [⟨.exit 0, [3], ⟨[.dead, .dead, .dead, .ov 50 [], .dead, .dead, .dead, .dead, .dead, .dead, .dead, .dead, .dead, .dead, .dead, .dead, .dead, .dead, .dead, .dead, .dead, .dead, .dead, .dead, .dead, .dead, .dead], [⟨50, (.sl 2 (.int .i64)), (.own .imm), false, false⟩]⟩⟩]
noncomputable def spec_l01Points.con (N : Nat) : Con := { modes := [.v], ptrs := [false], fn := fun ds k => match ds with | [d0] => castDm .str .imm d0 fun x0 => bindO (spec_l01Points N x0) fun r => k [⟨(.sl 2 (.int .i64)), (.own .imm), r⟩] [] | _ => none }
noncomputable def spec_l01Points.cfg (N : Nat) : Cfg := { ty := tys, keep := [16], flt := [], elm := [(22, (.own .imm)), (23, (.own (.own .imm))), (24, (.own .imm)), (43, (.pr (.own .imm) .imm)), (44, (.pr (.own .imm) .imm)), (48, (.own .imm))], live := [(3, [0, 3, 4])], ord := [], con := [((46, [.one]), spec_l01First.con N)], loops := [(3, loopCon N spec_l01Points.sk3 spec_l01Points.xs3 (fun {R} => spec_l01Points.l3 (R := R) N))], joins := [] }
theorem spec_l01Points.cons (N : Nat) : ConsOk Try.prog (spec_l01Points.cfg N).con := (consOk_cons (hb46) (spec_l01First.ok N) (spec_l01First.det N) consOk_nil)
theorem spec_l01Points.h3 {R : Type} (N : Nat) (d : spec_l01Points.sk3.D) (kn : spec_l01Points.sk3.D → Option R) (kx : XD spec_l01Points.xs3 → Option R) : roundK (spec_l01Points.cfg N) N (nthLoop (fnBody Try.f31) 0) spec_l01Points.sk3 spec_l01Points.xs3 d kn kx = spec_l01Points.l3 N d kn kx := by kernel_rfl
theorem spec_l01Points.i3 (N : Nat) : LoopsOk Try.prog (spec_l01Points.cfg N) (nthLoop (fnBody Try.f31) 0) := loopsL (l := []) (by kernel_rfl) trivial
theorem spec_l01Points.o3 (N : Nat) : LoopOk Try.prog (nthLoop (fnBody Try.f31) 0) (loopCon N spec_l01Points.sk3 spec_l01Points.xs3 (fun {R} => spec_l01Points.l3 (R := R) N)) := loop_ok (g := spec_l01Points.cfg N) tys_ok (spec_l01Points.cons N) mixed (spec_l01Points.i3 N) (fun d kn kx => spec_l01Points.h3 N d kn kx)
theorem spec_l01Points.ls (N : Nat) : LoopsOk Try.prog (spec_l01Points.cfg N) (fnBody Try.f31) := loopsL (l := [nthLoop (fnBody Try.f31) 0]) (by kernel_rfl) ⟨loopOne (L0 := loopCon N spec_l01Points.sk3 spec_l01Points.xs3 (fun {R} => spec_l01Points.l3 (R := R) N)) (id := 3) (by kernel_rfl) (by kernel_rfl) (spec_l01Points.o3 N), trivial⟩
theorem spec_l01Points.q3 {R R' : Type} {N n : Nat} {d} {k} {g : R → Option R'} : bindF (loopP (spec_l01Points.l3 N) n d k) g = loopP (spec_l01Points.l3 N) n d fun e => bindF (k e) g := bindF_loopP (fun d kn kx => by simp only [spec_l01Points.l3, bindF_ifB, bindF_bindO, bindF_pure, bindF_none, bindF_onSum]) n d k
theorem spec_l01Points.b (N : Nat) (x0 : den .str) : body (spec_l01Points.cfg N) N Try.f31 [.one] [.v] [(false, (.own .imm))] [⟨.str, .imm, x0⟩] (fun r i => some (r, i)) = bindO (spec_l01Points N x0) fun r => some ([⟨(.sl 2 (.int .i64)), (.own .imm), r⟩], []) := by
  show _ = bindF _ _
  conv => rhs; simp only [spec_l01Points, bindF_ifB, bindF_bindO, bindF_pure, bindF_none, bindF_onSum, spec_l01Points.q3]
  kernel_rfl
theorem spec_l01Points.ok (N : Nat) : ConOk Try.prog 31 [.one] (spec_l01Points.con N) := by
  refine conOk_mk (g := spec_l01Points.cfg N) (N := N) (res := [(false, (.own .imm))]) tys_ok (spec_l01Points.cons N) mixed Try.func31 (spec_l01Points.ls N) rfl rfl ?_
  intro ds R k y h
  cases ds with
  | nil => exact none_some h
  | cons d0 ds =>
  cases ds with
  | cons _ _ => exact none_some h
  | nil =>
  have h0 : (castDm .str .imm d0 fun x0 => bindO (spec_l01Points N x0) fun r => k [⟨(.sl 2 (.int .i64)), (.own .imm), r⟩] []) = some y := h
  clear h
  obtain ⟨x0, rfl, h1⟩ := castDm_eq h0
  exact con_fin (spec_l01Points.b N x0) h1
theorem spec_l01Points.det (N : Nat) : ConDet (spec_l01Points.con N) := by
  intro ds R k y h
  cases ds with
  | nil => exact none_some h
  | cons d0 ds =>
  cases ds with
  | cons _ _ => exact none_some h
  | nil =>
  have h0 : (castDm .str .imm d0 fun x0 => bindO (spec_l01Points N x0) fun r => k [⟨(.sl 2 (.int .i64)), (.own .imm), r⟩] []) = some y := h
  clear h
  obtain ⟨x0, rfl, h1⟩ := castDm_eq h0
  obtain ⟨r, e, h⟩ := bindO_some h1
  refine ⟨_, _, h, fun k' => ?_⟩
  show (castDm .str .imm (⟨.str, .imm, x0⟩ : Dy) fun x0 => bindO (spec_l01Points N x0) fun r => k' [⟨(.sl 2 (.int .i64)), (.own .imm), r⟩] []) = _
  simp only [castDm_self]
  rw [e]
  rfl
noncomputable def spec_l01Src_l15Cand.con (N : Nat) : Con := { modes := [.io], ptrs := [false], fn := fun ds k => match ds with | [d0] => castDm (.pair (.sl 5 (.int .u8)) (.pair (.int .i64) (.pair (.int .u64) (.pair (.int .i64) .unit)))) .imm d0 fun x0 => bindO (spec_l01Src_l15Cand N x0) fun r => k [⟨(.sl 2 (.int .i64)), (.own .imm), r.1⟩] [⟨(.pair (.sl 5 (.int .u8)) (.pair (.int .i64) (.pair (.int .u64) (.pair (.int .i64) .unit)))), .imm, r.2⟩] | _ => none }
noncomputable def spec_l01Src_l15Cand.cfg (N : Nat) : Cfg := { ty := tys, keep := [5, 6], flt := [], elm := [(22, (.own .imm)), (23, (.own (.own .imm))), (24, (.own .imm)), (43, (.pr (.own .imm) .imm)), (44, (.pr (.own .imm) .imm)), (48, (.own .imm))], live := [], ord := [], con := [((32, [.one, .one]), spec_l01Src_pick.con N), ((31, [.one]), spec_l01Points.con N)], loops := [], joins := [] }
theorem spec_l01Src_l15Cand.cons (N : Nat) : ConsOk Try.prog (spec_l01Src_l15Cand.cfg N).con := (consOk_cons (hb32) (spec_l01Src_pick.ok N) (spec_l01Src_pick.det N) (consOk_cons (hb31) (spec_l01Points.ok N) (spec_l01Points.det N) consOk_nil))
theorem spec_l01Src_l15Cand.ls (N : Nat) : LoopsOk Try.prog (spec_l01Src_l15Cand.cfg N) (fnBody Try.f30) := loopsL (l := []) (by kernel_rfl) trivial
theorem spec_l01Src_l15Cand.b (N : Nat) (x0 : den (.pair (.sl 5 (.int .u8)) (.pair (.int .i64) (.pair (.int .u64) (.pair (.int .i64) .unit))))) : body (spec_l01Src_l15Cand.cfg N) N Try.f30 [.one] [.io] [(false, (.own .imm))] [⟨(.pair (.sl 5 (.int .u8)) (.pair (.int .i64) (.pair (.int .u64) (.pair (.int .i64) .unit)))), .imm, x0⟩] (fun r i => some (r, i)) = bindO (spec_l01Src_l15Cand N x0) fun r => some ([⟨(.sl 2 (.int .i64)), (.own .imm), r.1⟩], [⟨(.pair (.sl 5 (.int .u8)) (.pair (.int .i64) (.pair (.int .u64) (.pair (.int .i64) .unit)))), .imm, r.2⟩]) := by
  show _ = bindF _ _
  conv => rhs; simp only [spec_l01Src_l15Cand, bindF_ifB, bindF_bindO, bindF_pure, bindF_none, bindF_onSum]
  kernel_rfl
theorem spec_l01Src_l15Cand.ok (N : Nat) : ConOk Try.prog 30 [.one] (spec_l01Src_l15Cand.con N) := by
  refine conOk_mk (g := spec_l01Src_l15Cand.cfg N) (N := N) (res := [(false, (.own .imm))]) tys_ok (spec_l01Src_l15Cand.cons N) mixed Try.func30 (spec_l01Src_l15Cand.ls N) rfl rfl ?_
  intro ds R k y h
  cases ds with
  | nil => exact none_some h
  | cons d0 ds =>
  cases ds with
  | cons _ _ => exact none_some h
  | nil =>
  have h0 : (castDm (.pair (.sl 5 (.int .u8)) (.pair (.int .i64) (.pair (.int .u64) (.pair (.int .i64) .unit)))) .imm d0 fun x0 => bindO (spec_l01Src_l15Cand N x0) fun r => k [⟨(.sl 2 (.int .i64)), (.own .imm), r.1⟩] [⟨(.pair (.sl 5 (.int .u8)) (.pair (.int .i64) (.pair (.int .u64) (.pair (.int .i64) .unit)))), .imm, r.2⟩]) = some y := h
  clear h
  obtain ⟨x0, rfl, h1⟩ := castDm_eq h0
  exact con_fin (spec_l01Src_l15Cand.b N x0) h1
theorem spec_l01Src_l15Cand.det (N : Nat) : ConDet (spec_l01Src_l15Cand.con N) := by
  intro ds R k y h
  cases ds with
  | nil => exact none_some h
  | cons d0 ds =>
  cases ds with
  | cons _ _ => exact none_some h
  | nil =>
  have h0 : (castDm (.pair (.sl 5 (.int .u8)) (.pair (.int .i64) (.pair (.int .u64) (.pair (.int .i64) .unit)))) .imm d0 fun x0 => bindO (spec_l01Src_l15Cand N x0) fun r => k [⟨(.sl 2 (.int .i64)), (.own .imm), r.1⟩] [⟨(.pair (.sl 5 (.int .u8)) (.pair (.int .i64) (.pair (.int .u64) (.pair (.int .i64) .unit)))), .imm, r.2⟩]) = some y := h
  clear h
  obtain ⟨x0, rfl, h1⟩ := castDm_eq h0
  obtain ⟨r, e, h⟩ := bindO_some h1
  refine ⟨_, _, h, fun k' => ?_⟩
  show (castDm (.pair (.sl 5 (.int .u8)) (.pair (.int .i64) (.pair (.int .u64) (.pair (.int .i64) .unit)))) .imm (⟨(.pair (.sl 5 (.int .u8)) (.pair (.int .i64) (.pair (.int .u64) (.pair (.int .i64) .unit)))), .imm, x0⟩ : Dy) fun x0 => bindO (spec_l01Src_l15Cand N x0) fun r => k' [⟨(.sl 2 (.int .i64)), (.own .imm), r.1⟩] [⟨(.pair (.sl 5 (.int .u8)) (.pair (.int .i64) (.pair (.int .u64) (.pair (.int .i64) .unit)))), .imm, r.2⟩]) = _
  simp only [castDm_self]
  rw [e]
  rfl
def spec_l01Src_l15Cands.sk5 : Skel := ⟨[.ptr 0 [], .dead, .dead, .ov 50 [], .pv (.int .i64), .dead, .dead, .dead, .dead, .dead, .dead, .dead, .dead, .dead, .dead, .dead, .dead, .dead, .dead, .dead, .dead, .dead, .dead, .dead, .dead, .dead, .dead, .dead, .dead, .dead, .dead, .dead, .dead, .dead, .dead, .dead, .dead, .dead, .dead, .dead, .dead, .dead, .dead, .dead, .dead, .dead, .dead, .dead, .dead, .dead, .dead, .dead, .dead, .dead, .dead, .dead], [⟨0, (.pair (.sl 5 (.int .u8)) (.pair (.int .i64) (.pair (.int .u64) (.pair (.int .i64) .unit)))), .imm, true, false⟩, ⟨50, (.sl 24 (.sl 2 (.int .i64))), (.own (.own .imm)), false, false⟩]⟩
def spec_l01Src_l15Cands.xs5 : List XS := [⟨.exit 0, [0, 3], ⟨[.ptr 0 [], .dead, .dead, .ov 50 [], .dead, .dead, .dead, .dead, .dead, .dead, .dead, .dead, .dead, .dead, .dead, .dead, .dead, .dead, .dead, .dead, .dead, .dead, .dead, .dead, .dead, .dead, .dead, .dead, .dead, .dead, .dead, .dead, .dead, .dead, .dead, .dead, .dead, .dead, .dead, .dead, .dead, .dead, .dead, .dead, .dead, .dead, .dead, .dead, .dead, .dead, .dead, .dead, .dead, .dead, .dead, .dead], [⟨0, (.pair (.sl 5 (.int .u8)) (.pair (.int .i64) (.pair (.int .u64) (.pair (.int .i64) .unit)))), .imm, true, false⟩, ⟨50, (.sl 24 (.sl 2 (.int .i64))), (.own (.own .imm)), false, false⟩]⟩⟩]
def spec_l01Src_l15Cands.sk12 : Skel := ⟨[.dead, .dead, .dead, .ov 50 [], .dead, .ov 51 [], .pv (.int .i64), .dead, .dead, .dead, .dead, .dead, .dead, .dead, .dead, .dead, .dead, .dead, .dead, .dead, .dead, .dead, .dead, .dead, .dead, .dead, .dead, .dead, .dead, .dead, .dead, .dead, .dead, .dead, .dead, .dead, .dead, .dead, .dead, .dead, .dead, .dead, .dead, .dead, .dead, .dead, .dead, .dead, .dead, .dead, .dead, .dead, .dead, .dead, .dead, .dead], [⟨0, (.pair (.sl 5 (.int .u8)) (.pair (.int .i64) (.pair (.int .u64) (.pair (.int .i64) .unit)))), .imm, true, false⟩, ⟨50, (.sl 24 (.sl 2 (.int .i64))), (.own (.own .imm)), false, false⟩, ⟨51, (.sl 2 (.int .i64)), (.own .imm), false, false⟩]⟩
def spec_l01Src_l15Cands.xs12 : List XS := [⟨.exit 3, [3, 5], ⟨[.dead, .dead, .dead, .ov 50 [], .dead, .ov 51 [], .dead, .dead, .dead, .dead, .dead, .dead, .dead, .dead, .dead, .dead, .dead, .dead, .dead, .dead, .dead, .dead, .dead, .dead, .dead, .dead, .dead, .dead, .dead, .dead, .dead, .dead, .dead, .dead, .dead, .dead, .dead, .dead, .dead, .dead, .dead, .dead, .dead, .dead, .dead, .dead, .dead, .dead, .dead, .dead, .dead, .dead, .dead, .dead, .dead, .dead], [⟨0, (.pair (.sl 5 (.int .u8)) (.pair (.int .i64) (.pair (.int .u64) (.pair (.int .i64) .unit)))), .imm, true, false⟩, ⟨50, (.sl 24 (.sl 2 (.int .i64))), (.own (.own .imm)), false, false⟩, ⟨51, (.sl 2 (.int .i64)), (.own .imm), false, false⟩]⟩⟩]
noncomputable def spec_l01Src_l15Cands.con (N : Nat) : Con := { modes := [.io], ptrs := [false], fn := fun ds k => match ds with | [d0] => castDm (.pair (.sl 5 (.int .u8)) (.pair (.int .i64) (.pair (.int .u64) (.pair (.int .i64) .unit)))) .imm d0 fun x0 => bindO (spec_l01Src_l15Cands N x0) fun r => k [⟨(.sl 24 (.sl 2 (.int .i64))), (.own (.own .imm)), r.1⟩] [⟨(.pair (.sl 5 (.int .u8)) (.pair (.int .i64) (.pair (.int .u64) (.pair (.int .i64) .unit)))), .imm, r.2⟩] | _ => none }
noncomputable def spec_l01Src_l15Cands.cfg (N : Nat) : Cfg := { ty := tys, keep := [9, 11, 13, 21, 25, 27, 30], flt := [], elm := [(22, (.own .imm)), (23, (.own (.own .imm))), (24, (.own .imm)), (43, (.pr (.own .imm) .imm)), (44, (.pr (.own .imm) .imm)), (48, (.own .imm))], live := [(12, [3, 5, 6]), (5, [0, 3, 4])], ord := [], con := [((28, [.one, .one]), spec_l01Src_n.con N), ((29, [.one, .one]), spec_l01Src_one.con N), ((30, [.one]), spec_l01Src_l15Cand.con N)], loops := [(5, loopCon N spec_l01Src_l15Cands.sk5 spec_l01Src_l15Cands.xs5 (fun {R} => spec_l01Src_l15Cands.l5 (R := R) N)), (12, loopCon N spec_l01Src_l15Cands.sk12 spec_l01Src_l15Cands.xs12 (fun {R} => spec_l01Src_l15Cands.l12 (R := R) N))], joins := [] }
theorem spec_l01Src_l15Cands.cons (N : Nat) : ConsOk Try.prog (spec_l01Src_l15Cands.cfg N).con := (consOk_cons (hb28) (spec_l01Src_n.ok N) (spec_l01Src_n.det N) (consOk_cons (hb29) (spec_l01Src_one.ok N) (spec_l01Src_one.det N) (consOk_cons (hb30) (spec_l01Src_l15Cand.ok N) (spec_l01Src_l15Cand.det N) consOk_nil)))
theorem spec_l01Src_l15Cands.h12 {R : Type} (N : Nat) (d : spec_l01Src_l15Cands.sk12.D) (kn : spec_l01Src_l15Cands.sk12.D → Option R) (kx : XD spec_l01Src_l15Cands.xs12 → Option R) : roundK (spec_l01Src_l15Cands.cfg N) N (nthLoop (fnBody Try.f15) 1) spec_l01Src_l15Cands.sk12 spec_l01Src_l15Cands.xs12 d kn kx = spec_l01Src_l15Cands.l12 N d kn kx := by kernel_rfl
theorem spec_l01Src_l15Cands.i12 (N : Nat) : LoopsOk Try.prog (spec_l01Src_l15Cands.cfg N) (nthLoop (fnBody Try.f15) 1) := loopsL (l := []) (by kernel_rfl) trivial
theorem spec_l01Src_l15Cands.o12 (N : Nat) : LoopOk Try.prog (nthLoop (fnBody Try.f15) 1) (loopCon N spec_l01Src_l15Cands.sk12 spec_l01Src_l15Cands.xs12 (fun {R} => spec_l01Src_l15Cands.l12 (R := R) N)) := loop_ok (g := spec_l01Src_l15Cands.cfg N) tys_ok (spec_l01Src_l15Cands.cons N) mixed (spec_l01Src_l15Cands.i12 N) (fun d kn kx => spec_l01Src_l15Cands.h12 N d kn kx)
theorem spec_l01Src_l15Cands.h5 {R : Type} (N : Nat) (d : spec_l01Src_l15Cands.sk5.D) (kn : spec_l01Src_l15Cands.sk5.D → Option R) (kx : XD spec_l01Src_l15Cands.xs5 → Option R) : roundK (spec_l01Src_l15Cands.cfg N) N (nthLoop (fnBody Try.f15) 0) spec_l01Src_l15Cands.sk5 spec_l01Src_l15Cands.xs5 d kn kx = spec_l01Src_l15Cands.l5 N d kn kx := by kernel_rfl
theorem spec_l01Src_l15Cands.i5 (N : Nat) : LoopsOk Try.prog (spec_l01Src_l15Cands.cfg N) (nthLoop (fnBody Try.f15) 0) := loopsL (l := []) (by kernel_rfl) trivial
theorem spec_l01Src_l15Cands.o5 (N : Nat) : LoopOk Try.prog (nthLoop (fnBody Try.f15) 0) (loopCon N spec_l01Src_l15Cands.sk5 spec_l01Src_l15Cands.xs5 (fun {R} => spec_l01Src_l15Cands.l5 (R := R) N)) := loop_ok (g := spec_l01Src_l15Cands.cfg N) tys_ok (spec_l01Src_l15Cands.cons N) mixed (spec_l01Src_l15Cands.i5 N) (fun d kn kx => spec_l01Src_l15Cands.h5 N d kn kx)
theorem spec_l01Src_l15Cands.ls (N : Nat) : LoopsOk Try.prog (spec_l01Src_l15Cands.cfg N) (fnBody Try.f15) := loopsL (l := [nthLoop (fnBody Try.f15) 0, nthLoop (fnBody Try.f15) 1]) (by kernel_rfl) ⟨loopOne (L0 := loopCon N spec_l01Src_l15Cands.sk5 spec_l01Src_l15Cands.xs5 (fun {R} => spec_l01Src_l15Cands.l5 (R := R) N)) (id := 5) (by kernel_rfl) (by kernel_rfl) (spec_l01Src_l15Cands.o5 N), ⟨loopOne (L0 := loopCon N spec_l01Src_l15Cands.sk12 spec_l01Src_l15Cands.xs12 (fun {R} => spec_l01Src_l15Cands.l12 (R := R) N)) (id := 12) (by kernel_rfl) (by kernel_rfl) (spec_l01Src_l15Cands.o12 N), trivial⟩⟩
theorem spec_l01Src_l15Cands.q12 {R R' : Type} {N n : Nat} {d} {k} {g : R → Option R'} : bindF (loopP (spec_l01Src_l15Cands.l12 N) n d k) g = loopP (spec_l01Src_l15Cands.l12 N) n d fun e => bindF (k e) g := bindF_loopP (fun d kn kx => by simp only [spec_l01Src_l15Cands.l12, bindF_ifB, bindF_bindO, bindF_pure, bindF_none, bindF_onSum]) n d k
theorem spec_l01Src_l15Cands.q5 {R R' : Type} {N n : Nat} {d} {k} {g : R → Option R'} : bindF (loopP (spec_l01Src_l15Cands.l5 N) n d k) g = loopP (spec_l01Src_l15Cands.l5 N) n d fun e => bindF (k e) g := bindF_loopP (fun d kn kx => by simp only [spec_l01Src_l15Cands.l5, bindF_ifB, bindF_bindO, bindF_pure, bindF_none, bindF_onSum]) n d k
theorem spec_l01Src_l15Cands.b (N : Nat) (x0 : den (.pair (.sl 5 (.int .u8)) (.pair (.int .i64) (.pair (.int .u64) (.pair (.int .i64) .unit))))) : body (spec_l01Src_l15Cands.cfg N) N Try.f15 [.one] [.io] [(false, (.own (.own .imm)))] [⟨(.pair (.sl 5 (.int .u8)) (.pair (.int .i64) (.pair (.int .u64) (.pair (.int .i64) .unit)))), .imm, x0⟩] (fun r i => some (r, i)) = bindO (spec_l01Src_l15Cands N x0) fun r => some ([⟨(.sl 24 (.sl 2 (.int .i64))), (.own (.own .imm)), r.1⟩], [⟨(.pair (.sl 5 (.int .u8)) (.pair (.int .i64) (.pair (.int .u64) (.pair (.int .i64) .unit)))), .imm, r.2⟩]) := by
  show _ = bindF _ _
  conv => rhs; simp only [spec_l01Src_l15Cands, bindF_ifB, bindF_bindO, bindF_pure, bindF_none, bindF_onSum, spec_l01Src_l15Cands.q5, spec_l01Src_l15Cands.q12]
  kernel_rfl
theorem spec_l01Src_l15Cands.ok (N : Nat) : ConOk Try.prog 15 [.one] (spec_l01Src_l15Cands.con N) := by
  refine conOk_mk (g := spec_l01Src_l15Cands.cfg N) (N := N) (res := [(false, (.own (.own .imm)))]) tys_ok (spec_l01Src_l15Cands.cons N) mixed Try.func15 (spec_l01Src_l15Cands.ls N) rfl rfl ?_
  intro ds R k y h
  cases ds with
  | nil => exact none_some h
  | cons d0 ds =>
  cases ds with
  | cons _ _ => exact none_some h
  | nil =>
  have h0 : (castDm (.pair (.sl 5 (.int .u8)) (.pair (.int .i64) (.pair (.int .u64) (.pair (.int .i64) .unit)))) .imm d0 fun x0 => bindO (spec_l01Src_l15Cands N x0) fun r => k [⟨(.sl 24 (.sl 2 (.int .i64))), (.own (.own .imm)), r.1⟩] [⟨(.pair (.sl 5 (.int .u8)) (.pair (.int .i64) (.pair (.int .u64) (.pair (.int .i64) .unit)))), .imm, r.2⟩]) = some y := h
  clear h
  obtain ⟨x0, rfl, h1⟩ := castDm_eq h0
  exact con_fin (spec_l01Src_l15Cands.b N x0) h1
theorem spec_l01Src_l15Cands.det (N : Nat) : ConDet (spec_l01Src_l15Cands.con N) := by
  intro ds R k y h
  cases ds with
  | nil => exact none_some h
  | cons d0 ds =>
  cases ds with
  | cons _ _ => exact none_some h
  | nil =>
  have h0 : (castDm (.pair (.sl 5 (.int .u8)) (.pair (.int .i64) (.pair (.int .u64) (.pair (.int .i64) .unit)))) .imm d0 fun x0 => bindO (spec_l01Src_l15Cands N x0) fun r => k [⟨(.sl 24 (.sl 2 (.int .i64))), (.own (.own .imm)), r.1⟩] [⟨(.pair (.sl 5 (.int .u8)) (.pair (.int .i64) (.pair (.int .u64) (.pair (.int .i64) .unit)))), .imm, r.2⟩]) = some y := h
  clear h
  obtain ⟨x0, rfl, h1⟩ := castDm_eq h0
  obtain ⟨r, e, h⟩ := bindO_some h1
  refine ⟨_, _, h, fun k' => ?_⟩
  show (castDm (.pair (.sl 5 (.int .u8)) (.pair (.int .i64) (.pair (.int .u64) (.pair (.int .i64) .unit)))) .imm (⟨(.pair (.sl 5 (.int .u8)) (.pair (.int .i64) (.pair (.int .u64) (.pair (.int .i64) .unit)))), .imm, x0⟩ : Dy) fun x0 => bindO (spec_l01Src_l15Cands N x0) fun r => k' [⟨(.sl 24 (.sl 2 (.int .i64))), (.own (.own .imm)), r.1⟩] [⟨(.pair (.sl 5 (.int .u8)) (.pair (.int .i64) (.pair (.int .u64) (.pair (.int .i64) .unit)))), .imm, r.2⟩]) = _
  simp only [castDm_self]
  rw [e]
  rfl
noncomputable def spec_l01Src_l15Prefix.con (N : Nat) : Con := { modes := [.io], ptrs := [false], fn := fun ds k => match ds with | [d0] => castDm (.pair (.sl 5 (.int .u8)) (.pair (.int .i64) (.pair (.int .u64) (.pair (.int .i64) .unit)))) .imm d0 fun x0 => bindO (spec_l01Src_l15Prefix N x0) fun r => k [⟨(.sl 2 (.int .i64)), (.own .imm), r.1⟩] [⟨(.pair (.sl 5 (.int .u8)) (.pair (.int .i64) (.pair (.int .u64) (.pair (.int .i64) .unit)))), .imm, r.2⟩] | _ => none }
noncomputable def spec_l01Src_l15Prefix.cfg (N : Nat) : Cfg := { ty := tys, keep := [5, 6], flt := [], elm := [(22, (.own .imm)), (23, (.own (.own .imm))), (24, (.own .imm)), (43, (.pr (.own .imm) .imm)), (44, (.pr (.own .imm) .imm)), (48, (.own .imm))], live := [], ord := [], con := [((32, [.one, .one]), spec_l01Src_pick.con N), ((31, [.one]), spec_l01Points.con N)], loops := [], joins := [] }
theorem spec_l01Src_l15Prefix.cons (N : Nat) : ConsOk Try.prog (spec_l01Src_l15Prefix.cfg N).con := (consOk_cons (hb32) (spec_l01Src_pick.ok N) (spec_l01Src_pick.det N) (consOk_cons (hb31) (spec_l01Points.ok N) (spec_l01Points.det N) consOk_nil))
theorem spec_l01Src_l15Prefix.ls (N : Nat) : LoopsOk Try.prog (spec_l01Src_l15Prefix.cfg N) (fnBody Try.f16) := loopsL (l := []) (by kernel_rfl) trivial
theorem spec_l01Src_l15Prefix.b (N : Nat) (x0 : den (.pair (.sl 5 (.int .u8)) (.pair (.int .i64) (.pair (.int .u64) (.pair (.int .i64) .unit))))) : body (spec_l01Src_l15Prefix.cfg N) N Try.f16 [.one] [.io] [(false, (.own .imm))] [⟨(.pair (.sl 5 (.int .u8)) (.pair (.int .i64) (.pair (.int .u64) (.pair (.int .i64) .unit)))), .imm, x0⟩] (fun r i => some (r, i)) = bindO (spec_l01Src_l15Prefix N x0) fun r => some ([⟨(.sl 2 (.int .i64)), (.own .imm), r.1⟩], [⟨(.pair (.sl 5 (.int .u8)) (.pair (.int .i64) (.pair (.int .u64) (.pair (.int .i64) .unit)))), .imm, r.2⟩]) := by
  show _ = bindF _ _
  conv => rhs; simp only [spec_l01Src_l15Prefix, bindF_ifB, bindF_bindO, bindF_pure, bindF_none, bindF_onSum]
  kernel_rfl
theorem spec_l01Src_l15Prefix.ok (N : Nat) : ConOk Try.prog 16 [.one] (spec_l01Src_l15Prefix.con N) := by
  refine conOk_mk (g := spec_l01Src_l15Prefix.cfg N) (N := N) (res := [(false, (.own .imm))]) tys_ok (spec_l01Src_l15Prefix.cons N) mixed Try.func16 (spec_l01Src_l15Prefix.ls N) rfl rfl ?_
  intro ds R k y h
  cases ds with
  | nil => exact none_some h
  | cons d0 ds =>
  cases ds with
  | cons _ _ => exact none_some h
  | nil =>
  have h0 : (castDm (.pair (.sl 5 (.int .u8)) (.pair (.int .i64) (.pair (.int .u64) (.pair (.int .i64) .unit)))) .imm d0 fun x0 => bindO (spec_l01Src_l15Prefix N x0) fun r => k [⟨(.sl 2 (.int .i64)), (.own .imm), r.1⟩] [⟨(.pair (.sl 5 (.int .u8)) (.pair (.int .i64) (.pair (.int .u64) (.pair (.int .i64) .unit)))), .imm, r.2⟩]) = some y := h
  clear h
  obtain ⟨x0, rfl, h1⟩ := castDm_eq h0
  exact con_fin (spec_l01Src_l15Prefix.b N x0) h1
theorem spec_l01Src_l15Prefix.det (N : Nat) : ConDet (spec_l01Src_l15Prefix.con N) := by
  intro ds R k y h
  cases ds with
  | nil => exact none_some h
  | cons d0 ds =>
  cases ds with
  | cons _ _ => exact none_some h
  | nil =>
  have h0 : (castDm (.pair (.sl 5 (.int .u8)) (.pair (.int .i64) (.pair (.int .u64) (.pair (.int .i64) .unit)))) .imm d0 fun x0 => bindO (spec_l01Src_l15Prefix N x0) fun r => k [⟨(.sl 2 (.int .i64)), (.own .imm), r.1⟩] [⟨(.pair (.sl 5 (.int .u8)) (.pair (.int .i64) (.pair (.int .u64) (.pair (.int .i64) .unit)))), .imm, r.2⟩]) = some y := h
  clear h
  obtain ⟨x0, rfl, h1⟩ := castDm_eq h0
  obtain ⟨r, e, h⟩ := bindO_some h1
  refine ⟨_, _, h, fun k' => ?_⟩
  show (castDm (.pair (.sl 5 (.int .u8)) (.pair (.int .i64) (.pair (.int .u64) (.pair (.int .i64) .unit)))) .imm (⟨(.pair (.sl 5 (.int .u8)) (.pair (.int .i64) (.pair (.int .u64) (.pair (.int .i64) .unit)))), .imm, x0⟩ : Dy) fun x0 => bindO (spec_l01Src_l15Prefix N x0) fun r => k' [⟨(.sl 2 (.int .i64)), (.own .imm), r.1⟩] [⟨(.pair (.sl 5 (.int .u8)) (.pair (.int .i64) (.pair (.int .u64) (.pair (.int .i64) .unit)))), .imm, r.2⟩]) = _
  simp only [castDm_self]
  rw [e]
  rfl
noncomputable def spec_DrawCompCommon.con (N : Nat) : Con := { modes := [.v], ptrs := [false, false], fn := fun ds k => match ds with | [d0] => castDm (.sl 5 (.int .u8)) .imm d0 fun x0 => bindO (spec_DrawCompCommon N x0) fun r => k [⟨(.sl 24 (.sl 2 (.int .i64))), (.own (.own .imm)), r.1⟩, ⟨(.sl 2 (.int .i64)), (.own .imm), r.2⟩] [] | _ => none }
noncomputable def spec_DrawCompCommon.cfg (N : Nat) : Cfg := { ty := tys, keep := [7, 9, 12], flt := [], elm := [(22, (.own .imm)), (23, (.own (.own .imm))), (24, (.own .imm)), (43, (.pr (.own .imm) .imm)), (44, (.pr (.own .imm) .imm)), (48, (.own .imm))], live := [], ord := [], con := [((14, [.one]), spec_l01Source.con N), ((15, [.one]), spec_l01Src_l15Cands.con N), ((16, [.one]), spec_l01Src_l15Prefix.con N)], loops := [], joins := [] }
theorem spec_DrawCompCommon.cons (N : Nat) : ConsOk Try.prog (spec_DrawCompCommon.cfg N).con := (consOk_cons (hb14) (spec_l01Source.ok N) (spec_l01Source.det N) (consOk_cons (hb15) (spec_l01Src_l15Cands.ok N) (spec_l01Src_l15Cands.det N) (consOk_cons (hb16) (spec_l01Src_l15Prefix.ok N) (spec_l01Src_l15Prefix.det N) consOk_nil)))
theorem spec_DrawCompCommon.ls (N : Nat) : LoopsOk Try.prog (spec_DrawCompCommon.cfg N) (fnBody Try.f4) := loopsL (l := []) (by kernel_rfl) trivial
theorem spec_DrawCompCommon.b (N : Nat) (x0 : den (.sl 5 (.int .u8))) : body (spec_DrawCompCommon.cfg N) N Try.f4 [.one] [.v] [(false, (.own (.own .imm))), (false, (.own .imm))] [⟨(.sl 5 (.int .u8)), .imm, x0⟩] (fun r i => some (r, i)) = bindO (spec_DrawCompCommon N x0) fun r => some ([⟨(.sl 24 (.sl 2 (.int .i64))), (.own (.own .imm)), r.1⟩, ⟨(.sl 2 (.int .i64)), (.own .imm), r.2⟩], []) := by
  show _ = bindF _ _
  conv => rhs; simp only [spec_DrawCompCommon, bindF_ifB, bindF_bindO, bindF_pure, bindF_none, bindF_onSum]
  kernel_rfl
theorem spec_DrawCompCommon.ok (N : Nat) : ConOk Try.prog 4 [.one] (spec_DrawCompCommon.con N) := by
  refine conOk_mk (g := spec_DrawCompCommon.cfg N) (N := N) (res := [(false, (.own (.own .imm))), (false, (.own .imm))]) tys_ok (spec_DrawCompCommon.cons N) mixed Try.func4 (spec_DrawCompCommon.ls N) rfl rfl ?_
  intro ds R k y h
  cases ds with
  | nil => exact none_some h
  | cons d0 ds =>
  cases ds with
  | cons _ _ => exact none_some h
  | nil =>
  have h0 : (castDm (.sl 5 (.int .u8)) .imm d0 fun x0 => bindO (spec_DrawCompCommon N x0) fun r => k [⟨(.sl 24 (.sl 2 (.int .i64))), (.own (.own .imm)), r.1⟩, ⟨(.sl 2 (.int .i64)), (.own .imm), r.2⟩] []) = some y := h
  clear h
  obtain ⟨x0, rfl, h1⟩ := castDm_eq h0
  exact con_fin (spec_DrawCompCommon.b N x0) h1
theorem spec_DrawCompCommon.det (N : Nat) : ConDet (spec_DrawCompCommon.con N) := by
  intro ds R k y h
  cases ds with
  | nil => exact none_some h
  | cons d0 ds =>
  cases ds with
  | cons _ _ => exact none_some h
  | nil =>
  have h0 : (castDm (.sl 5 (.int .u8)) .imm d0 fun x0 => bindO (spec_DrawCompCommon N x0) fun r => k [⟨(.sl 24 (.sl 2 (.int .i64))), (.own (.own .imm)), r.1⟩, ⟨(.sl 2 (.int .i64)), (.own .imm), r.2⟩] []) = some y := h
  clear h
  obtain ⟨x0, rfl, h1⟩ := castDm_eq h0
  obtain ⟨r, e, h⟩ := bindO_some h1
  refine ⟨_, _, h, fun k' => ?_⟩
  show (castDm (.sl 5 (.int .u8)) .imm (⟨(.sl 5 (.int .u8)), .imm, x0⟩ : Dy) fun x0 => bindO (spec_DrawCompCommon N x0) fun r => k' [⟨(.sl 24 (.sl 2 (.int .i64))), (.own (.own .imm)), r.1⟩, ⟨(.sl 2 (.int .i64)), (.own .imm), r.2⟩] []) = _
  simp only [castDm_self]
  rw [e]
  rfl
end Go.AE.F
