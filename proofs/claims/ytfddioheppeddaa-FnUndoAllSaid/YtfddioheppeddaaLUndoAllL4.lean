/- The printed functions are what the program comes to: contracts. -/
import Derived.Test.YtfddioheppeddaaLUndoAllL3
namespace Go.AE.F
open Go.AE Go.Proofs
set_option maxRecDepth 100000
noncomputable def slices_Grow_Sint64_int64.con (N : Nat) : Con := { modes := [.nl, .v], ptrs := [false], fn := fun ds k => match ds with | [d0, d1] => castDm (.sl 2 (.int .i64)) .imm d0 fun x0 => castDm (.int .i64) .imm d1 fun x1 => bindO (slices_Grow_Sint64_int64 N x0 x1) fun r => k [⟨(.sl 2 (.int .i64)), (.own .imm), r⟩] [] | _ => none }
noncomputable def slices_Grow_Sint64_int64.cfg (N : Nat) : Cfg := { ty := tys, keep := [], flt := [], elm := [(22, (.own .imm)), (23, (.own .imm)), (24, (.pr (.own .imm) .imm)), (25, (.pr (.own .imm) .imm)), (26, (.own (.own .imm))), (29, (.own (.pr (.own .imm) .imm))), (30, (.pr (.own (.pr (.own .imm) .imm)) (.pr (.own (.pr (.own .imm) .imm)) .imm))), (31, (.pr (.own (.pr (.own .imm) .imm)) (.pr (.own (.pr (.own .imm) .imm)) .imm))), (32, (.pr (.pr (.own (.pr (.own .imm) .imm)) (.pr (.own (.pr (.own .imm) .imm)) .imm)) (.pr (.pr (.own .imm) .imm) .imm))), (33, (.pr (.pr (.own (.pr (.own .imm) .imm)) (.pr (.own (.pr (.own .imm) .imm)) .imm)) (.pr (.pr (.own .imm) .imm) .imm))), (44, (.pr (.own .imm) .imm)), (45, (.pr (.own .imm) .imm)), (52, (.pr (.pr (.own .imm) .imm) (.pr (.own .imm) .imm))), (53, (.pr (.pr (.own .imm) .imm) (.pr (.own .imm) .imm)))], live := [], ord := [], con := [], loops := [], joins := [] }
theorem slices_Grow_Sint64_int64.cons (N : Nat) : ConsOk Try.prog (slices_Grow_Sint64_int64.cfg N).con := consOk_nil
theorem slices_Grow_Sint64_int64.ls (N : Nat) : LoopsOk Try.prog (slices_Grow_Sint64_int64.cfg N) (fnBody Try.f57) := loopsL (l := []) (by kernel_rfl) trivial
theorem slices_Grow_Sint64_int64.b (N : Nat) (x0 : den (.sl 2 (.int .i64))) (x1 : den (.int .i64)) : body (slices_Grow_Sint64_int64.cfg N) N Try.f57 [.one, .one] [.nl, .v] [(false, (.own .imm))] [⟨(.sl 2 (.int .i64)), .imm, x0⟩, ⟨(.int .i64), .imm, x1⟩] (fun r i => some (r, i)) = bindO (slices_Grow_Sint64_int64 N x0 x1) fun r => some ([⟨(.sl 2 (.int .i64)), (.own .imm), r⟩], []) := by
  show _ = bindF _ _
  conv => rhs; simp only [slices_Grow_Sint64_int64, bindF_ifB, bindF_bindO, bindF_pure, bindF_none, bindF_onSum]
  kernel_rfl
theorem slices_Grow_Sint64_int64.ok (N : Nat) : ConOk Try.prog 57 [.one, .one] (slices_Grow_Sint64_int64.con N) := by
  refine conOk_mk (g := slices_Grow_Sint64_int64.cfg N) (N := N) (res := [(false, (.own .imm))]) tys_ok (slices_Grow_Sint64_int64.cons N) mixed Try.func57 (slices_Grow_Sint64_int64.ls N) rfl rfl ?_
  intro ds R k y h
  cases ds with
  | nil => exact none_some h
  | cons d0 ds =>
  cases ds with
  | nil => exact none_some h
  | cons d1 ds =>
  cases ds with
  | cons _ _ => exact none_some h
  | nil =>
  have h0 : (castDm (.sl 2 (.int .i64)) .imm d0 fun x0 => castDm (.int .i64) .imm d1 fun x1 => bindO (slices_Grow_Sint64_int64 N x0 x1) fun r => k [⟨(.sl 2 (.int .i64)), (.own .imm), r⟩] []) = some y := h
  clear h
  obtain ⟨x0, rfl, h1⟩ := castDm_eq h0
  obtain ⟨x1, rfl, h2⟩ := castDm_eq h1
  exact con_fin (slices_Grow_Sint64_int64.b N x0 x1) h2
theorem slices_Grow_Sint64_int64.det (N : Nat) : ConDet (slices_Grow_Sint64_int64.con N) := by
  intro ds R k y h
  cases ds with
  | nil => exact none_some h
  | cons d0 ds =>
  cases ds with
  | nil => exact none_some h
  | cons d1 ds =>
  cases ds with
  | cons _ _ => exact none_some h
  | nil =>
  have h0 : (castDm (.sl 2 (.int .i64)) .imm d0 fun x0 => castDm (.int .i64) .imm d1 fun x1 => bindO (slices_Grow_Sint64_int64 N x0 x1) fun r => k [⟨(.sl 2 (.int .i64)), (.own .imm), r⟩] []) = some y := h
  clear h
  obtain ⟨x0, rfl, h1⟩ := castDm_eq h0
  obtain ⟨x1, rfl, h2⟩ := castDm_eq h1
  obtain ⟨r, e, h⟩ := bindO_some h2
  refine ⟨_, _, h, fun k' => ?_⟩
  show (castDm (.sl 2 (.int .i64)) .imm (⟨(.sl 2 (.int .i64)), .imm, x0⟩ : Dy) fun x0 => castDm (.int .i64) .imm (⟨(.int .i64), .imm, x1⟩ : Dy) fun x1 => bindO (slices_Grow_Sint64_int64 N x0 x1) fun r => k' [⟨(.sl 2 (.int .i64)), (.own .imm), r⟩] []) = _
  simp only [castDm_self]
  rw [e]
  rfl
def slices_Concat_Sint64_int64.sk3 : Skel := ⟨[.pv (.sl 23 (.sl 2 (.int .i64))), .dead, .dead, .pv (.int .i64), .dead, .dead, .dead, .dead, .dead, .pv (.sl 23 (.sl 2 (.int .i64))), .pv (.int .i64), .pv (.int .i64), .dead, .dead, .dead, .dead, .dead, .dead, .dead, .dead, .dead, .dead, .dead, .dead, .dead, .dead, .dead, .dead, .dead, .dead, .dead, .dead, .dead, .dead, .dead, .dead], []⟩
def slices_Concat_Sint64_int64.xs3 : List XS := [⟨.exit 0, [0, 3], ⟨[.pv (.sl 23 (.sl 2 (.int .i64))), .dead, .dead, .pv (.int .i64), .dead, .dead, .dead, .dead, .dead, .dead, .dead, .dead, .dead, .dead, .dead, .dead, .dead, .dead, .dead, .dead, .dead, .dead, .dead, .dead, .dead, .dead, .dead, .dead, .dead, .dead, .dead, .dead, .dead, .dead, .dead, .dead], []⟩⟩]
def slices_Concat_Sint64_int64.sk11 : Skel := ⟨[.dead, .dead, .dead, .dead, .dead, .dead, .ov 50 [], .dead, .dead, .dead, .dead, .dead, .dead, .dead, .dead, .dead, .dead, .dead, .dead, .dead, .dead, .dead, .dead, .dead, .dead, .pv (.sl 23 (.sl 2 (.int .i64))), .pv (.int .i64), .pv (.int .i64), .dead, .dead, .dead, .dead, .dead, .dead, .dead, .dead], [⟨50, (.sl 2 (.int .i64)), (.own .imm), false, false⟩]⟩
def slices_Concat_Sint64_int64.xs11 : List XS := [⟨.exit 2, [6], ⟨[.dead, .dead, .dead, .dead, .dead, .dead, .ov 50 [], .dead, .dead, .dead, .dead, .dead, .dead, .dead, .dead, .dead, .dead, .dead, .dead, .dead, .dead, .dead, .dead, .dead, .dead, .dead, .dead, .dead, .dead, .dead, .dead, .dead, .dead, .dead, .dead, .dead], [⟨50, (.sl 2 (.int .i64)), (.own .imm), false, false⟩]⟩⟩]
noncomputable def slices_Concat_Sint64_int64.con (N : Nat) : Con := { modes := [.v], ptrs := [false], fn := fun ds k => match ds with | [d0] => castDm (.sl 23 (.sl 2 (.int .i64))) .imm d0 fun x0 => bindO (slices_Concat_Sint64_int64 N x0) fun r => k [⟨(.sl 2 (.int .i64)), (.own .imm), r⟩] [] | _ => none }
noncomputable def slices_Concat_Sint64_int64.cfg (N : Nat) : Cfg := { ty := tys, keep := [24], flt := [], elm := [(22, (.own .imm)), (23, (.own .imm)), (24, (.pr (.own .imm) .imm)), (25, (.pr (.own .imm) .imm)), (26, (.own (.own .imm))), (29, (.own (.pr (.own .imm) .imm))), (30, (.pr (.own (.pr (.own .imm) .imm)) (.pr (.own (.pr (.own .imm) .imm)) .imm))), (31, (.pr (.own (.pr (.own .imm) .imm)) (.pr (.own (.pr (.own .imm) .imm)) .imm))), (32, (.pr (.pr (.own (.pr (.own .imm) .imm)) (.pr (.own (.pr (.own .imm) .imm)) .imm)) (.pr (.pr (.own .imm) .imm) .imm))), (33, (.pr (.pr (.own (.pr (.own .imm) .imm)) (.pr (.own (.pr (.own .imm) .imm)) .imm)) (.pr (.pr (.own .imm) .imm) .imm))), (44, (.pr (.own .imm) .imm)), (45, (.pr (.own .imm) .imm)), (52, (.pr (.pr (.own .imm) .imm) (.pr (.own .imm) .imm))), (53, (.pr (.pr (.own .imm) .imm) (.pr (.own .imm) .imm)))], live := [(11, [6, 25, 26, 27]), (3, [0, 3, 9, 10, 11])], ord := [], con := [((57, [.one, .one]), slices_Grow_Sint64_int64.con N)], loops := [(3, loopCon N slices_Concat_Sint64_int64.sk3 slices_Concat_Sint64_int64.xs3 (fun {R} => slices_Concat_Sint64_int64.l3 (R := R) N)), (11, loopCon N slices_Concat_Sint64_int64.sk11 slices_Concat_Sint64_int64.xs11 (fun {R} => slices_Concat_Sint64_int64.l11 (R := R) N))], joins := [] }
theorem slices_Concat_Sint64_int64.cons (N : Nat) : ConsOk Try.prog (slices_Concat_Sint64_int64.cfg N).con := (consOk_cons (hb57) (slices_Grow_Sint64_int64.ok N) (slices_Grow_Sint64_int64.det N) consOk_nil)
theorem slices_Concat_Sint64_int64.h11 {R : Type} (N : Nat) (d : slices_Concat_Sint64_int64.sk11.D) (kn : slices_Concat_Sint64_int64.sk11.D → Option R) (kx : XD slices_Concat_Sint64_int64.xs11 → Option R) : roundK (slices_Concat_Sint64_int64.cfg N) N (nthLoop (fnBody Try.f50) 1) slices_Concat_Sint64_int64.sk11 slices_Concat_Sint64_int64.xs11 d kn kx = slices_Concat_Sint64_int64.l11 N d kn kx := by kernel_rfl
theorem slices_Concat_Sint64_int64.i11 (N : Nat) : LoopsOk Try.prog (slices_Concat_Sint64_int64.cfg N) (nthLoop (fnBody Try.f50) 1) := loopsL (l := []) (by kernel_rfl) trivial
theorem slices_Concat_Sint64_int64.o11 (N : Nat) : LoopOk Try.prog (nthLoop (fnBody Try.f50) 1) (loopCon N slices_Concat_Sint64_int64.sk11 slices_Concat_Sint64_int64.xs11 (fun {R} => slices_Concat_Sint64_int64.l11 (R := R) N)) := loop_ok (g := slices_Concat_Sint64_int64.cfg N) tys_ok (slices_Concat_Sint64_int64.cons N) mixed (slices_Concat_Sint64_int64.i11 N) (fun d kn kx => slices_Concat_Sint64_int64.h11 N d kn kx)
theorem slices_Concat_Sint64_int64.h3 {R : Type} (N : Nat) (d : slices_Concat_Sint64_int64.sk3.D) (kn : slices_Concat_Sint64_int64.sk3.D → Option R) (kx : XD slices_Concat_Sint64_int64.xs3 → Option R) : roundK (slices_Concat_Sint64_int64.cfg N) N (nthLoop (fnBody Try.f50) 0) slices_Concat_Sint64_int64.sk3 slices_Concat_Sint64_int64.xs3 d kn kx = slices_Concat_Sint64_int64.l3 N d kn kx := by kernel_rfl
theorem slices_Concat_Sint64_int64.i3 (N : Nat) : LoopsOk Try.prog (slices_Concat_Sint64_int64.cfg N) (nthLoop (fnBody Try.f50) 0) := loopsL (l := []) (by kernel_rfl) trivial
theorem slices_Concat_Sint64_int64.o3 (N : Nat) : LoopOk Try.prog (nthLoop (fnBody Try.f50) 0) (loopCon N slices_Concat_Sint64_int64.sk3 slices_Concat_Sint64_int64.xs3 (fun {R} => slices_Concat_Sint64_int64.l3 (R := R) N)) := loop_ok (g := slices_Concat_Sint64_int64.cfg N) tys_ok (slices_Concat_Sint64_int64.cons N) mixed (slices_Concat_Sint64_int64.i3 N) (fun d kn kx => slices_Concat_Sint64_int64.h3 N d kn kx)
theorem slices_Concat_Sint64_int64.ls (N : Nat) : LoopsOk Try.prog (slices_Concat_Sint64_int64.cfg N) (fnBody Try.f50) := loopsL (l := [nthLoop (fnBody Try.f50) 0, nthLoop (fnBody Try.f50) 1]) (by kernel_rfl) ⟨loopOne (L0 := loopCon N slices_Concat_Sint64_int64.sk3 slices_Concat_Sint64_int64.xs3 (fun {R} => slices_Concat_Sint64_int64.l3 (R := R) N)) (id := 3) (by kernel_rfl) (by kernel_rfl) (slices_Concat_Sint64_int64.o3 N), ⟨loopOne (L0 := loopCon N slices_Concat_Sint64_int64.sk11 slices_Concat_Sint64_int64.xs11 (fun {R} => slices_Concat_Sint64_int64.l11 (R := R) N)) (id := 11) (by kernel_rfl) (by kernel_rfl) (slices_Concat_Sint64_int64.o11 N), trivial⟩⟩
theorem slices_Concat_Sint64_int64.q11 {R R' : Type} {N n : Nat} {d} {k} {g : R → Option R'} : bindF (loopP (slices_Concat_Sint64_int64.l11 N) n d k) g = loopP (slices_Concat_Sint64_int64.l11 N) n d fun e => bindF (k e) g := bindF_loopP (fun d kn kx => by simp only [slices_Concat_Sint64_int64.l11, bindF_ifB, bindF_bindO, bindF_pure, bindF_none, bindF_onSum]) n d k
theorem slices_Concat_Sint64_int64.q3 {R R' : Type} {N n : Nat} {d} {k} {g : R → Option R'} : bindF (loopP (slices_Concat_Sint64_int64.l3 N) n d k) g = loopP (slices_Concat_Sint64_int64.l3 N) n d fun e => bindF (k e) g := bindF_loopP (fun d kn kx => by simp only [slices_Concat_Sint64_int64.l3, bindF_ifB, bindF_bindO, bindF_pure, bindF_none, bindF_onSum]) n d k
theorem slices_Concat_Sint64_int64.b (N : Nat) (x0 : den (.sl 23 (.sl 2 (.int .i64)))) : body (slices_Concat_Sint64_int64.cfg N) N Try.f50 [.one] [.v] [(false, (.own .imm))] [⟨(.sl 23 (.sl 2 (.int .i64))), .imm, x0⟩] (fun r i => some (r, i)) = bindO (slices_Concat_Sint64_int64 N x0) fun r => some ([⟨(.sl 2 (.int .i64)), (.own .imm), r⟩], []) := by
  show _ = bindF _ _
  conv => rhs; simp only [slices_Concat_Sint64_int64, bindF_ifB, bindF_bindO, bindF_pure, bindF_none, bindF_onSum, slices_Concat_Sint64_int64.q3, slices_Concat_Sint64_int64.q11]
  kernel_rfl
theorem slices_Concat_Sint64_int64.ok (N : Nat) : ConOk Try.prog 50 [.one] (slices_Concat_Sint64_int64.con N) := by
  refine conOk_mk (g := slices_Concat_Sint64_int64.cfg N) (N := N) (res := [(false, (.own .imm))]) tys_ok (slices_Concat_Sint64_int64.cons N) mixed Try.func50 (slices_Concat_Sint64_int64.ls N) rfl rfl ?_
  intro ds R k y h
  cases ds with
  | nil => exact none_some h
  | cons d0 ds =>
  cases ds with
  | cons _ _ => exact none_some h
  | nil =>
  have h0 : (castDm (.sl 23 (.sl 2 (.int .i64))) .imm d0 fun x0 => bindO (slices_Concat_Sint64_int64 N x0) fun r => k [⟨(.sl 2 (.int .i64)), (.own .imm), r⟩] []) = some y := h
  clear h
  obtain ⟨x0, rfl, h1⟩ := castDm_eq h0
  exact con_fin (slices_Concat_Sint64_int64.b N x0) h1
theorem slices_Concat_Sint64_int64.det (N : Nat) : ConDet (slices_Concat_Sint64_int64.con N) := by
  intro ds R k y h
  cases ds with
  | nil => exact none_some h
  | cons d0 ds =>
  cases ds with
  | cons _ _ => exact none_some h
  | nil =>
  have h0 : (castDm (.sl 23 (.sl 2 (.int .i64))) .imm d0 fun x0 => bindO (slices_Concat_Sint64_int64 N x0) fun r => k [⟨(.sl 2 (.int .i64)), (.own .imm), r⟩] []) = some y := h
  clear h
  obtain ⟨x0, rfl, h1⟩ := castDm_eq h0
  obtain ⟨r, e, h⟩ := bindO_some h1
  refine ⟨_, _, h, fun k' => ?_⟩
  show (castDm (.sl 23 (.sl 2 (.int .i64))) .imm (⟨(.sl 23 (.sl 2 (.int .i64))), .imm, x0⟩ : Dy) fun x0 => bindO (slices_Concat_Sint64_int64 N x0) fun r => k' [⟨(.sl 2 (.int .i64)), (.own .imm), r⟩] []) = _
  simp only [castDm_self]
  rw [e]
  rfl
noncomputable def impl_replace_c1.con (N : Nat) : Con := { modes := [.v, .rd, .rd, .rd], ptrs := [false], fn := fun ds k => match ds with | [d0, d1, d2, d3] => castDm (.int .i64) .imm d0 fun x0 => castDm (.int .i64) .imm d1 fun x1 => castDm (.int .i64) .imm d2 fun x2 => castDm (.int .i64) .imm d3 fun x3 => bindO (impl_replace_c1 N x0 x1 x2 x3) fun r => k [⟨(.int .i64), .imm, r⟩] [] | _ => none }
noncomputable def impl_replace_c1.cfg (N : Nat) : Cfg := { ty := tys, keep := [], flt := [], elm := [(22, (.own .imm)), (23, (.own .imm)), (24, (.pr (.own .imm) .imm)), (25, (.pr (.own .imm) .imm)), (26, (.own (.own .imm))), (29, (.own (.pr (.own .imm) .imm))), (30, (.pr (.own (.pr (.own .imm) .imm)) (.pr (.own (.pr (.own .imm) .imm)) .imm))), (31, (.pr (.own (.pr (.own .imm) .imm)) (.pr (.own (.pr (.own .imm) .imm)) .imm))), (32, (.pr (.pr (.own (.pr (.own .imm) .imm)) (.pr (.own (.pr (.own .imm) .imm)) .imm)) (.pr (.pr (.own .imm) .imm) .imm))), (33, (.pr (.pr (.own (.pr (.own .imm) .imm)) (.pr (.own (.pr (.own .imm) .imm)) .imm)) (.pr (.pr (.own .imm) .imm) .imm))), (44, (.pr (.own .imm) .imm)), (45, (.pr (.own .imm) .imm)), (52, (.pr (.pr (.own .imm) .imm) (.pr (.own .imm) .imm))), (53, (.pr (.pr (.own .imm) .imm) (.pr (.own .imm) .imm)))], live := [], ord := [], con := [], loops := [], joins := [] }
theorem impl_replace_c1.cons (N : Nat) : ConsOk Try.prog (impl_replace_c1.cfg N).con := consOk_nil
theorem impl_replace_c1.ls (N : Nat) : LoopsOk Try.prog (impl_replace_c1.cfg N) (fnBody Try.f49) := loopsL (l := []) (by kernel_rfl) trivial
theorem impl_replace_c1.b (N : Nat) (x0 : den (.int .i64)) (x1 : den (.int .i64)) (x2 : den (.int .i64)) (x3 : den (.int .i64)) : body (impl_replace_c1.cfg N) N Try.f49 [.one] [.v, .rd, .rd, .rd] [(false, .imm)] [⟨(.int .i64), .imm, x0⟩, ⟨(.int .i64), .imm, x1⟩, ⟨(.int .i64), .imm, x2⟩, ⟨(.int .i64), .imm, x3⟩] (fun r i => some (r, i)) = bindO (impl_replace_c1 N x0 x1 x2 x3) fun r => some ([⟨(.int .i64), .imm, r⟩], []) := by
  show _ = bindF _ _
  conv => rhs; simp only [impl_replace_c1, bindF_ifB, bindF_bindO, bindF_pure, bindF_none, bindF_onSum]
  kernel_rfl
theorem impl_replace_c1.ok (N : Nat) : ConOk Try.prog 49 [.one] (impl_replace_c1.con N) := by
  refine conOk_mk (g := impl_replace_c1.cfg N) (N := N) (res := [(false, .imm)]) tys_ok (impl_replace_c1.cons N) mixed Try.func49 (impl_replace_c1.ls N) rfl rfl ?_
  intro ds R k y h
  cases ds with
  | nil => exact none_some h
  | cons d0 ds =>
  cases ds with
  | nil => exact none_some h
  | cons d1 ds =>
  cases ds with
  | nil => exact none_some h
  | cons d2 ds =>
  cases ds with
  | nil => exact none_some h
  | cons d3 ds =>
  cases ds with
  | cons _ _ => exact none_some h
  | nil =>
  have h0 : (castDm (.int .i64) .imm d0 fun x0 => castDm (.int .i64) .imm d1 fun x1 => castDm (.int .i64) .imm d2 fun x2 => castDm (.int .i64) .imm d3 fun x3 => bindO (impl_replace_c1 N x0 x1 x2 x3) fun r => k [⟨(.int .i64), .imm, r⟩] []) = some y := h
  clear h
  obtain ⟨x0, rfl, h1⟩ := castDm_eq h0
  obtain ⟨x1, rfl, h2⟩ := castDm_eq h1
  obtain ⟨x2, rfl, h3⟩ := castDm_eq h2
  obtain ⟨x3, rfl, h4⟩ := castDm_eq h3
  exact con_fin (impl_replace_c1.b N x0 x1 x2 x3) h4
theorem impl_replace_c1.det (N : Nat) : ConDet (impl_replace_c1.con N) := by
  intro ds R k y h
  cases ds with
  | nil => exact none_some h
  | cons d0 ds =>
  cases ds with
  | nil => exact none_some h
  | cons d1 ds =>
  cases ds with
  | nil => exact none_some h
  | cons d2 ds =>
  cases ds with
  | nil => exact none_some h
  | cons d3 ds =>
  cases ds with
  | cons _ _ => exact none_some h
  | nil =>
  have h0 : (castDm (.int .i64) .imm d0 fun x0 => castDm (.int .i64) .imm d1 fun x1 => castDm (.int .i64) .imm d2 fun x2 => castDm (.int .i64) .imm d3 fun x3 => bindO (impl_replace_c1 N x0 x1 x2 x3) fun r => k [⟨(.int .i64), .imm, r⟩] []) = some y := h
  clear h
  obtain ⟨x0, rfl, h1⟩ := castDm_eq h0
  obtain ⟨x1, rfl, h2⟩ := castDm_eq h1
  obtain ⟨x2, rfl, h3⟩ := castDm_eq h2
  obtain ⟨x3, rfl, h4⟩ := castDm_eq h3
  obtain ⟨r, e, h⟩ := bindO_some h4
  refine ⟨_, _, h, fun k' => ?_⟩
  show (castDm (.int .i64) .imm (⟨(.int .i64), .imm, x0⟩ : Dy) fun x0 => castDm (.int .i64) .imm (⟨(.int .i64), .imm, x1⟩ : Dy) fun x1 => castDm (.int .i64) .imm (⟨(.int .i64), .imm, x2⟩ : Dy) fun x2 => castDm (.int .i64) .imm (⟨(.int .i64), .imm, x3⟩ : Dy) fun x3 => bindO (impl_replace_c1 N x0 x1 x2 x3) fun r => k' [⟨(.int .i64), .imm, r⟩] []) = _
  simp only [castDm_self]
  rw [e]
  rfl
noncomputable def impl_replace.con (N : Nat) : Con := { modes := [.v, .v, .v, .v], ptrs := [false], fn := fun ds k => match ds with | [d0, d1, d2, d3] => castDm (.pair (.sl 2 (.int .i64)) (.pair (.int .i64) (.pair (.int .i64) .unit))) .imm d0 fun x0 => castDm (.int .i64) .imm d1 fun x1 => castDm (.int .i64) .imm d2 fun x2 => castDm (.sl 2 (.int .i64)) .imm d3 fun x3 => bindO (impl_replace N x0 x1 x2 x3) fun r => k [⟨(.pair (.pair (.sl 2 (.int .i64)) (.pair (.int .i64) (.pair (.int .i64) .unit))) (.pair (.sl 2 (.int .i64)) (.pair (.int .i64) .unit))), (.pr (.pr (.own .imm) .imm) (.pr (.own .imm) .imm)), r⟩] [] | _ => none }
noncomputable def impl_replace.cfg (N : Nat) : Cfg := { ty := tys, keep := [23, 28, 35, 51, 55, 59, 72, 81], flt := [], elm := [(22, (.own .imm)), (23, (.own .imm)), (24, (.pr (.own .imm) .imm)), (25, (.pr (.own .imm) .imm)), (26, (.own (.own .imm))), (29, (.own (.pr (.own .imm) .imm))), (30, (.pr (.own (.pr (.own .imm) .imm)) (.pr (.own (.pr (.own .imm) .imm)) .imm))), (31, (.pr (.own (.pr (.own .imm) .imm)) (.pr (.own (.pr (.own .imm) .imm)) .imm))), (32, (.pr (.pr (.own (.pr (.own .imm) .imm)) (.pr (.own (.pr (.own .imm) .imm)) .imm)) (.pr (.pr (.own .imm) .imm) .imm))), (33, (.pr (.pr (.own (.pr (.own .imm) .imm)) (.pr (.own (.pr (.own .imm) .imm)) .imm)) (.pr (.pr (.own .imm) .imm) .imm))), (44, (.pr (.own .imm) .imm)), (45, (.pr (.own .imm) .imm)), (52, (.pr (.pr (.own .imm) .imm) (.pr (.own .imm) .imm))), (53, (.pr (.pr (.own .imm) .imm) (.pr (.own .imm) .imm)))], live := [], ord := [(1, [0, 1, 2, 3, 4, 5, 6, 7, 8, 9, 10, 11, 12, 13]), (3, [6, 0, 2, 3, 4, 1, 5, 7]), (4, [0, 1, 3, 2, 4, 5]), (7, [20, 0, 1, 2, 3, 4, 5, 6, 7, 8, 11, 12, 13, 15, 16, 17, 9, 10, 14, 18, 19, 21]), (9, [0, 1, 2, 3, 4, 5]), (10, [0, 1, 2, 3, 4, 5, 6, 7, 8])], con := [((48, [.one]), impl_size_Sint64.con N), ((50, [.one]), slices_Concat_Sint64_int64.con N), ((49, [.one]), impl_replace_c1.con N), ((44, [.one]), slices_Clone_Sint64_int64.con N)], loops := [], joins := [] }
theorem impl_replace.cons (N : Nat) : ConsOk Try.prog (impl_replace.cfg N).con := (consOk_cons (hb48) (impl_size_Sint64.ok N) (impl_size_Sint64.det N) (consOk_cons (hb50) (slices_Concat_Sint64_int64.ok N) (slices_Concat_Sint64_int64.det N) (consOk_cons (hb49) (impl_replace_c1.ok N) (impl_replace_c1.det N) (consOk_cons (hb44) (slices_Clone_Sint64_int64.ok N) (slices_Clone_Sint64_int64.det N) consOk_nil))))
theorem impl_replace.ls (N : Nat) : LoopsOk Try.prog (impl_replace.cfg N) (fnBody Try.f28) := loopsL (l := []) (by kernel_rfl) trivial
theorem impl_replace.b (N : Nat) (x0 : den (.pair (.sl 2 (.int .i64)) (.pair (.int .i64) (.pair (.int .i64) .unit)))) (x1 : den (.int .i64)) (x2 : den (.int .i64)) (x3 : den (.sl 2 (.int .i64))) : body (impl_replace.cfg N) N Try.f28 [.one, .one, .one, .one] [.v, .v, .v, .v] [(false, (.pr (.pr (.own .imm) .imm) (.pr (.own .imm) .imm)))] [⟨(.pair (.sl 2 (.int .i64)) (.pair (.int .i64) (.pair (.int .i64) .unit))), .imm, x0⟩, ⟨(.int .i64), .imm, x1⟩, ⟨(.int .i64), .imm, x2⟩, ⟨(.sl 2 (.int .i64)), .imm, x3⟩] (fun r i => some (r, i)) = bindO (impl_replace N x0 x1 x2 x3) fun r => some ([⟨(.pair (.pair (.sl 2 (.int .i64)) (.pair (.int .i64) (.pair (.int .i64) .unit))) (.pair (.sl 2 (.int .i64)) (.pair (.int .i64) .unit))), (.pr (.pr (.own .imm) .imm) (.pr (.own .imm) .imm)), r⟩], []) := by
  show _ = bindF _ _
  conv => rhs; simp only [impl_replace, bindF_ifB, bindF_bindO, bindF_pure, bindF_none, bindF_onSum]
  kernel_rfl
theorem impl_replace.ok (N : Nat) : ConOk Try.prog 28 [.one, .one, .one, .one] (impl_replace.con N) := by
  refine conOk_mk (g := impl_replace.cfg N) (N := N) (res := [(false, (.pr (.pr (.own .imm) .imm) (.pr (.own .imm) .imm)))]) tys_ok (impl_replace.cons N) mixed Try.func28 (impl_replace.ls N) rfl rfl ?_
  intro ds R k y h
  cases ds with
  | nil => exact none_some h
  | cons d0 ds =>
  cases ds with
  | nil => exact none_some h
  | cons d1 ds =>
  cases ds with
  | nil => exact none_some h
  | cons d2 ds =>
  cases ds with
  | nil => exact none_some h
  | cons d3 ds =>
  cases ds with
  | cons _ _ => exact none_some h
  | nil =>
  have h0 : (castDm (.pair (.sl 2 (.int .i64)) (.pair (.int .i64) (.pair (.int .i64) .unit))) .imm d0 fun x0 => castDm (.int .i64) .imm d1 fun x1 => castDm (.int .i64) .imm d2 fun x2 => castDm (.sl 2 (.int .i64)) .imm d3 fun x3 => bindO (impl_replace N x0 x1 x2 x3) fun r => k [⟨(.pair (.pair (.sl 2 (.int .i64)) (.pair (.int .i64) (.pair (.int .i64) .unit))) (.pair (.sl 2 (.int .i64)) (.pair (.int .i64) .unit))), (.pr (.pr (.own .imm) .imm) (.pr (.own .imm) .imm)), r⟩] []) = some y := h
  clear h
  obtain ⟨x0, rfl, h1⟩ := castDm_eq h0
  obtain ⟨x1, rfl, h2⟩ := castDm_eq h1
  obtain ⟨x2, rfl, h3⟩ := castDm_eq h2
  obtain ⟨x3, rfl, h4⟩ := castDm_eq h3
  exact con_fin (impl_replace.b N x0 x1 x2 x3) h4
theorem impl_replace.det (N : Nat) : ConDet (impl_replace.con N) := by
  intro ds R k y h
  cases ds with
  | nil => exact none_some h
  | cons d0 ds =>
  cases ds with
  | nil => exact none_some h
  | cons d1 ds =>
  cases ds with
  | nil => exact none_some h
  | cons d2 ds =>
  cases ds with
  | nil => exact none_some h
  | cons d3 ds =>
  cases ds with
  | cons _ _ => exact none_some h
  | nil =>
  have h0 : (castDm (.pair (.sl 2 (.int .i64)) (.pair (.int .i64) (.pair (.int .i64) .unit))) .imm d0 fun x0 => castDm (.int .i64) .imm d1 fun x1 => castDm (.int .i64) .imm d2 fun x2 => castDm (.sl 2 (.int .i64)) .imm d3 fun x3 => bindO (impl_replace N x0 x1 x2 x3) fun r => k [⟨(.pair (.pair (.sl 2 (.int .i64)) (.pair (.int .i64) (.pair (.int .i64) .unit))) (.pair (.sl 2 (.int .i64)) (.pair (.int .i64) .unit))), (.pr (.pr (.own .imm) .imm) (.pr (.own .imm) .imm)), r⟩] []) = some y := h
  clear h
  obtain ⟨x0, rfl, h1⟩ := castDm_eq h0
  obtain ⟨x1, rfl, h2⟩ := castDm_eq h1
  obtain ⟨x2, rfl, h3⟩ := castDm_eq h2
  obtain ⟨x3, rfl, h4⟩ := castDm_eq h3
  obtain ⟨r, e, h⟩ := bindO_some h4
  refine ⟨_, _, h, fun k' => ?_⟩
  show (castDm (.pair (.sl 2 (.int .i64)) (.pair (.int .i64) (.pair (.int .i64) .unit))) .imm (⟨(.pair (.sl 2 (.int .i64)) (.pair (.int .i64) (.pair (.int .i64) .unit))), .imm, x0⟩ : Dy) fun x0 => castDm (.int .i64) .imm (⟨(.int .i64), .imm, x1⟩ : Dy) fun x1 => castDm (.int .i64) .imm (⟨(.int .i64), .imm, x2⟩ : Dy) fun x2 => castDm (.sl 2 (.int .i64)) .imm (⟨(.sl 2 (.int .i64)), .imm, x3⟩ : Dy) fun x3 => bindO (impl_replace N x0 x1 x2 x3) fun r => k' [⟨(.pair (.pair (.sl 2 (.int .i64)) (.pair (.int .i64) (.pair (.int .i64) .unit))) (.pair (.sl 2 (.int .i64)) (.pair (.int .i64) .unit))), (.pr (.pr (.own .imm) .imm) (.pr (.own .imm) .imm)), r⟩] []) = _
  simp only [castDm_self]
  rw [e]
  rfl
noncomputable def impl_ownUndo.con (N : Nat) : Con := { modes := [.v], ptrs := [false], fn := fun ds k => match ds with | [d0] => castDm (.pair (.sl 25 (.pair (.sl 2 (.int .i64)) (.pair (.int .i64) (.pair (.int .i64) .unit)))) (.pair (.sl 25 (.pair (.sl 2 (.int .i64)) (.pair (.int .i64) (.pair (.int .i64) .unit)))) .unit)) .imm d0 fun x0 => bindO (impl_ownUndo N x0) fun r => k [⟨(.pair (.sl 25 (.pair (.sl 2 (.int .i64)) (.pair (.int .i64) (.pair (.int .i64) .unit)))) (.pair (.sl 25 (.pair (.sl 2 (.int .i64)) (.pair (.int .i64) (.pair (.int .i64) .unit)))) .unit)), (.pr (.own (.pr (.own .imm) .imm)) (.pr (.own (.pr (.own .imm) .imm)) .imm)), r⟩] [] | _ => none }
noncomputable def impl_ownUndo.cfg (N : Nat) : Cfg := { ty := tys, keep := [5, 8], flt := [], elm := [(22, (.own .imm)), (23, (.own .imm)), (24, (.pr (.own .imm) .imm)), (25, (.pr (.own .imm) .imm)), (26, (.own (.own .imm))), (29, (.own (.pr (.own .imm) .imm))), (30, (.pr (.own (.pr (.own .imm) .imm)) (.pr (.own (.pr (.own .imm) .imm)) .imm))), (31, (.pr (.own (.pr (.own .imm) .imm)) (.pr (.own (.pr (.own .imm) .imm)) .imm))), (32, (.pr (.pr (.own (.pr (.own .imm) .imm)) (.pr (.own (.pr (.own .imm) .imm)) .imm)) (.pr (.pr (.own .imm) .imm) .imm))), (33, (.pr (.pr (.own (.pr (.own .imm) .imm)) (.pr (.own (.pr (.own .imm) .imm)) .imm)) (.pr (.pr (.own .imm) .imm) .imm))), (44, (.pr (.own .imm) .imm)), (45, (.pr (.own .imm) .imm)), (52, (.pr (.pr (.own .imm) .imm) (.pr (.own .imm) .imm))), (53, (.pr (.pr (.own .imm) .imm) (.pr (.own .imm) .imm)))], live := [], ord := [(1, [0, 1, 3, 4, 2, 5, 6, 7])], con := [((46, [.one]), impl_ownBufs.con N)], loops := [], joins := [] }
theorem impl_ownUndo.cons (N : Nat) : ConsOk Try.prog (impl_ownUndo.cfg N).con := (consOk_cons (hb46) (impl_ownBufs.ok N) (impl_ownBufs.det N) consOk_nil)
theorem impl_ownUndo.ls (N : Nat) : LoopsOk Try.prog (impl_ownUndo.cfg N) (fnBody Try.f51) := loopsL (l := []) (by kernel_rfl) trivial
theorem impl_ownUndo.b (N : Nat) (x0 : den (.pair (.sl 25 (.pair (.sl 2 (.int .i64)) (.pair (.int .i64) (.pair (.int .i64) .unit)))) (.pair (.sl 25 (.pair (.sl 2 (.int .i64)) (.pair (.int .i64) (.pair (.int .i64) .unit)))) .unit))) : body (impl_ownUndo.cfg N) N Try.f51 [.one] [.v] [(false, (.pr (.own (.pr (.own .imm) .imm)) (.pr (.own (.pr (.own .imm) .imm)) .imm)))] [⟨(.pair (.sl 25 (.pair (.sl 2 (.int .i64)) (.pair (.int .i64) (.pair (.int .i64) .unit)))) (.pair (.sl 25 (.pair (.sl 2 (.int .i64)) (.pair (.int .i64) (.pair (.int .i64) .unit)))) .unit)), .imm, x0⟩] (fun r i => some (r, i)) = bindO (impl_ownUndo N x0) fun r => some ([⟨(.pair (.sl 25 (.pair (.sl 2 (.int .i64)) (.pair (.int .i64) (.pair (.int .i64) .unit)))) (.pair (.sl 25 (.pair (.sl 2 (.int .i64)) (.pair (.int .i64) (.pair (.int .i64) .unit)))) .unit)), (.pr (.own (.pr (.own .imm) .imm)) (.pr (.own (.pr (.own .imm) .imm)) .imm)), r⟩], []) := by
  show _ = bindF _ _
  conv => rhs; simp only [impl_ownUndo, bindF_ifB, bindF_bindO, bindF_pure, bindF_none, bindF_onSum]
  kernel_rfl
theorem impl_ownUndo.ok (N : Nat) : ConOk Try.prog 51 [.one] (impl_ownUndo.con N) := by
  refine conOk_mk (g := impl_ownUndo.cfg N) (N := N) (res := [(false, (.pr (.own (.pr (.own .imm) .imm)) (.pr (.own (.pr (.own .imm) .imm)) .imm)))]) tys_ok (impl_ownUndo.cons N) mixed Try.func51 (impl_ownUndo.ls N) rfl rfl ?_
  intro ds R k y h
  cases ds with
  | nil => exact none_some h
  | cons d0 ds =>
  cases ds with
  | cons _ _ => exact none_some h
  | nil =>
  have h0 : (castDm (.pair (.sl 25 (.pair (.sl 2 (.int .i64)) (.pair (.int .i64) (.pair (.int .i64) .unit)))) (.pair (.sl 25 (.pair (.sl 2 (.int .i64)) (.pair (.int .i64) (.pair (.int .i64) .unit)))) .unit)) .imm d0 fun x0 => bindO (impl_ownUndo N x0) fun r => k [⟨(.pair (.sl 25 (.pair (.sl 2 (.int .i64)) (.pair (.int .i64) (.pair (.int .i64) .unit)))) (.pair (.sl 25 (.pair (.sl 2 (.int .i64)) (.pair (.int .i64) (.pair (.int .i64) .unit)))) .unit)), (.pr (.own (.pr (.own .imm) .imm)) (.pr (.own (.pr (.own .imm) .imm)) .imm)), r⟩] []) = some y := h
  clear h
  obtain ⟨x0, rfl, h1⟩ := castDm_eq h0
  exact con_fin (impl_ownUndo.b N x0) h1
theorem impl_ownUndo.det (N : Nat) : ConDet (impl_ownUndo.con N) := by
  intro ds R k y h
  cases ds with
  | nil => exact none_some h
  | cons d0 ds =>
  cases ds with
  | cons _ _ => exact none_some h
  | nil =>
  have h0 : (castDm (.pair (.sl 25 (.pair (.sl 2 (.int .i64)) (.pair (.int .i64) (.pair (.int .i64) .unit)))) (.pair (.sl 25 (.pair (.sl 2 (.int .i64)) (.pair (.int .i64) (.pair (.int .i64) .unit)))) .unit)) .imm d0 fun x0 => bindO (impl_ownUndo N x0) fun r => k [⟨(.pair (.sl 25 (.pair (.sl 2 (.int .i64)) (.pair (.int .i64) (.pair (.int .i64) .unit)))) (.pair (.sl 25 (.pair (.sl 2 (.int .i64)) (.pair (.int .i64) (.pair (.int .i64) .unit)))) .unit)), (.pr (.own (.pr (.own .imm) .imm)) (.pr (.own (.pr (.own .imm) .imm)) .imm)), r⟩] []) = some y := h
  clear h
  obtain ⟨x0, rfl, h1⟩ := castDm_eq h0
  obtain ⟨r, e, h⟩ := bindO_some h1
  refine ⟨_, _, h, fun k' => ?_⟩
  show (castDm (.pair (.sl 25 (.pair (.sl 2 (.int .i64)) (.pair (.int .i64) (.pair (.int .i64) .unit)))) (.pair (.sl 25 (.pair (.sl 2 (.int .i64)) (.pair (.int .i64) (.pair (.int .i64) .unit)))) .unit)) .imm (⟨(.pair (.sl 25 (.pair (.sl 2 (.int .i64)) (.pair (.int .i64) (.pair (.int .i64) .unit)))) (.pair (.sl 25 (.pair (.sl 2 (.int .i64)) (.pair (.int .i64) (.pair (.int .i64) .unit)))) .unit)), .imm, x0⟩ : Dy) fun x0 => bindO (impl_ownUndo N x0) fun r => k' [⟨(.pair (.sl 25 (.pair (.sl 2 (.int .i64)) (.pair (.int .i64) (.pair (.int .i64) .unit)))) (.pair (.sl 25 (.pair (.sl 2 (.int .i64)) (.pair (.int .i64) (.pair (.int .i64) .unit)))) .unit)), (.pr (.own (.pr (.own .imm) .imm)) (.pr (.own (.pr (.own .imm) .imm)) .imm)), r⟩] []) = _
  simp only [castDm_self]
  rw [e]
  rfl
noncomputable def impl_UndoNote.con (N : Nat) : Con := { modes := [.v, .v], ptrs := [false], fn := fun ds k => match ds with | [d0, d1] => castDm (.pair (.sl 25 (.pair (.sl 2 (.int .i64)) (.pair (.int .i64) (.pair (.int .i64) .unit)))) (.pair (.sl 25 (.pair (.sl 2 (.int .i64)) (.pair (.int .i64) (.pair (.int .i64) .unit)))) .unit)) .imm d0 fun x0 => castDm (.pair (.sl 2 (.int .i64)) (.pair (.int .i64) (.pair (.int .i64) .unit))) .imm d1 fun x1 => bindO (impl_UndoNote N x0 x1) fun r => k [⟨(.pair (.sl 25 (.pair (.sl 2 (.int .i64)) (.pair (.int .i64) (.pair (.int .i64) .unit)))) (.pair (.sl 25 (.pair (.sl 2 (.int .i64)) (.pair (.int .i64) (.pair (.int .i64) .unit)))) .unit)), (.pr (.own (.pr (.own .imm) .imm)) (.pr (.own (.pr (.own .imm) .imm)) .imm)), r⟩] [] | _ => none }
noncomputable def impl_UndoNote.cfg (N : Nat) : Cfg := { ty := tys, keep := [6, 10, 14, 18], flt := [], elm := [(22, (.own .imm)), (23, (.own .imm)), (24, (.pr (.own .imm) .imm)), (25, (.pr (.own .imm) .imm)), (26, (.own (.own .imm))), (29, (.own (.pr (.own .imm) .imm))), (30, (.pr (.own (.pr (.own .imm) .imm)) (.pr (.own (.pr (.own .imm) .imm)) .imm))), (31, (.pr (.own (.pr (.own .imm) .imm)) (.pr (.own (.pr (.own .imm) .imm)) .imm))), (32, (.pr (.pr (.own (.pr (.own .imm) .imm)) (.pr (.own (.pr (.own .imm) .imm)) .imm)) (.pr (.pr (.own .imm) .imm) .imm))), (33, (.pr (.pr (.own (.pr (.own .imm) .imm)) (.pr (.own (.pr (.own .imm) .imm)) .imm)) (.pr (.pr (.own .imm) .imm) .imm))), (44, (.pr (.own .imm) .imm)), (45, (.pr (.own .imm) .imm)), (52, (.pr (.pr (.own .imm) .imm) (.pr (.own .imm) .imm))), (53, (.pr (.pr (.own .imm) .imm) (.pr (.own .imm) .imm)))], live := [], ord := [], con := [((45, [.one]), impl_UndoRight.con N), ((22, [.one]), impl_BufRight.con N), ((51, [.one]), impl_ownUndo.con N), ((47, [.one, .one]), impl_behindBufs.con N)], loops := [], joins := [] }
theorem impl_UndoNote.cons (N : Nat) : ConsOk Try.prog (impl_UndoNote.cfg N).con := (consOk_cons (hb45) (impl_UndoRight.ok N) (impl_UndoRight.det N) (consOk_cons (hb22) (impl_BufRight.ok N) (impl_BufRight.det N) (consOk_cons (hb51) (impl_ownUndo.ok N) (impl_ownUndo.det N) (consOk_cons (hb47) (impl_behindBufs.ok N) (impl_behindBufs.det N) consOk_nil))))
theorem impl_UndoNote.ls (N : Nat) : LoopsOk Try.prog (impl_UndoNote.cfg N) (fnBody Try.f29) := loopsL (l := []) (by kernel_rfl) trivial
theorem impl_UndoNote.b (N : Nat) (x0 : den (.pair (.sl 25 (.pair (.sl 2 (.int .i64)) (.pair (.int .i64) (.pair (.int .i64) .unit)))) (.pair (.sl 25 (.pair (.sl 2 (.int .i64)) (.pair (.int .i64) (.pair (.int .i64) .unit)))) .unit))) (x1 : den (.pair (.sl 2 (.int .i64)) (.pair (.int .i64) (.pair (.int .i64) .unit)))) : body (impl_UndoNote.cfg N) N Try.f29 [.one, .one] [.v, .v] [(false, (.pr (.own (.pr (.own .imm) .imm)) (.pr (.own (.pr (.own .imm) .imm)) .imm)))] [⟨(.pair (.sl 25 (.pair (.sl 2 (.int .i64)) (.pair (.int .i64) (.pair (.int .i64) .unit)))) (.pair (.sl 25 (.pair (.sl 2 (.int .i64)) (.pair (.int .i64) (.pair (.int .i64) .unit)))) .unit)), .imm, x0⟩, ⟨(.pair (.sl 2 (.int .i64)) (.pair (.int .i64) (.pair (.int .i64) .unit))), .imm, x1⟩] (fun r i => some (r, i)) = bindO (impl_UndoNote N x0 x1) fun r => some ([⟨(.pair (.sl 25 (.pair (.sl 2 (.int .i64)) (.pair (.int .i64) (.pair (.int .i64) .unit)))) (.pair (.sl 25 (.pair (.sl 2 (.int .i64)) (.pair (.int .i64) (.pair (.int .i64) .unit)))) .unit)), (.pr (.own (.pr (.own .imm) .imm)) (.pr (.own (.pr (.own .imm) .imm)) .imm)), r⟩], []) := by
  show _ = bindF _ _
  conv => rhs; simp only [impl_UndoNote, bindF_ifB, bindF_bindO, bindF_pure, bindF_none, bindF_onSum]
  kernel_rfl
theorem impl_UndoNote.ok (N : Nat) : ConOk Try.prog 29 [.one, .one] (impl_UndoNote.con N) := by
  refine conOk_mk (g := impl_UndoNote.cfg N) (N := N) (res := [(false, (.pr (.own (.pr (.own .imm) .imm)) (.pr (.own (.pr (.own .imm) .imm)) .imm)))]) tys_ok (impl_UndoNote.cons N) mixed Try.func29 (impl_UndoNote.ls N) rfl rfl ?_
  intro ds R k y h
  cases ds with
  | nil => exact none_some h
  | cons d0 ds =>
  cases ds with
  | nil => exact none_some h
  | cons d1 ds =>
  cases ds with
  | cons _ _ => exact none_some h
  | nil =>
  have h0 : (castDm (.pair (.sl 25 (.pair (.sl 2 (.int .i64)) (.pair (.int .i64) (.pair (.int .i64) .unit)))) (.pair (.sl 25 (.pair (.sl 2 (.int .i64)) (.pair (.int .i64) (.pair (.int .i64) .unit)))) .unit)) .imm d0 fun x0 => castDm (.pair (.sl 2 (.int .i64)) (.pair (.int .i64) (.pair (.int .i64) .unit))) .imm d1 fun x1 => bindO (impl_UndoNote N x0 x1) fun r => k [⟨(.pair (.sl 25 (.pair (.sl 2 (.int .i64)) (.pair (.int .i64) (.pair (.int .i64) .unit)))) (.pair (.sl 25 (.pair (.sl 2 (.int .i64)) (.pair (.int .i64) (.pair (.int .i64) .unit)))) .unit)), (.pr (.own (.pr (.own .imm) .imm)) (.pr (.own (.pr (.own .imm) .imm)) .imm)), r⟩] []) = some y := h
  clear h
  obtain ⟨x0, rfl, h1⟩ := castDm_eq h0
  obtain ⟨x1, rfl, h2⟩ := castDm_eq h1
  exact con_fin (impl_UndoNote.b N x0 x1) h2
theorem impl_UndoNote.det (N : Nat) : ConDet (impl_UndoNote.con N) := by
  intro ds R k y h
  cases ds with
  | nil => exact none_some h
  | cons d0 ds =>
  cases ds with
  | nil => exact none_some h
  | cons d1 ds =>
  cases ds with
  | cons _ _ => exact none_some h
  | nil =>
  have h0 : (castDm (.pair (.sl 25 (.pair (.sl 2 (.int .i64)) (.pair (.int .i64) (.pair (.int .i64) .unit)))) (.pair (.sl 25 (.pair (.sl 2 (.int .i64)) (.pair (.int .i64) (.pair (.int .i64) .unit)))) .unit)) .imm d0 fun x0 => castDm (.pair (.sl 2 (.int .i64)) (.pair (.int .i64) (.pair (.int .i64) .unit))) .imm d1 fun x1 => bindO (impl_UndoNote N x0 x1) fun r => k [⟨(.pair (.sl 25 (.pair (.sl 2 (.int .i64)) (.pair (.int .i64) (.pair (.int .i64) .unit)))) (.pair (.sl 25 (.pair (.sl 2 (.int .i64)) (.pair (.int .i64) (.pair (.int .i64) .unit)))) .unit)), (.pr (.own (.pr (.own .imm) .imm)) (.pr (.own (.pr (.own .imm) .imm)) .imm)), r⟩] []) = some y := h
  clear h
  obtain ⟨x0, rfl, h1⟩ := castDm_eq h0
  obtain ⟨x1, rfl, h2⟩ := castDm_eq h1
  obtain ⟨r, e, h⟩ := bindO_some h2
  refine ⟨_, _, h, fun k' => ?_⟩
  show (castDm (.pair (.sl 25 (.pair (.sl 2 (.int .i64)) (.pair (.int .i64) (.pair (.int .i64) .unit)))) (.pair (.sl 25 (.pair (.sl 2 (.int .i64)) (.pair (.int .i64) (.pair (.int .i64) .unit)))) .unit)) .imm (⟨(.pair (.sl 25 (.pair (.sl 2 (.int .i64)) (.pair (.int .i64) (.pair (.int .i64) .unit)))) (.pair (.sl 25 (.pair (.sl 2 (.int .i64)) (.pair (.int .i64) (.pair (.int .i64) .unit)))) .unit)), .imm, x0⟩ : Dy) fun x0 => castDm (.pair (.sl 2 (.int .i64)) (.pair (.int .i64) (.pair (.int .i64) .unit))) .imm (⟨(.pair (.sl 2 (.int .i64)) (.pair (.int .i64) (.pair (.int .i64) .unit))), .imm, x1⟩ : Dy) fun x1 => bindO (impl_UndoNote N x0 x1) fun r => k' [⟨(.pair (.sl 25 (.pair (.sl 2 (.int .i64)) (.pair (.int .i64) (.pair (.int .i64) .unit)))) (.pair (.sl 25 (.pair (.sl 2 (.int .i64)) (.pair (.int .i64) (.pair (.int .i64) .unit)))) .unit)), (.pr (.own (.pr (.own .imm) .imm)) (.pr (.own (.pr (.own .imm) .imm)) .imm)), r⟩] []) = _
  simp only [castDm_self]
  rw [e]
  rfl
def impl_UndoRun.sk7 : Skel := ⟨[.dead, .dead, .dead, .dead, .ptr 50 [], .ptr 51 [], .ptr 52 [], .dead, .dead, .dead, .dead, .dead, .dead, .dead, .dead, .dead, .dead, .dead, .dead, .dead, .dead, .dead, .dead, .dead, .dead, .dead, .pv (.sl 23 (.sl 2 (.int .i64))), .pv (.int .i64), .pv (.int .i64), .dead, .dead, .dead, .dead, .dead, .dead, .dead, .dead, .dead, .dead, .dead, .dead, .dead, .dead, .dead, .dead, .dead, .dead, .dead, .dead, .dead, .dead, .dead, .dead, .dead, .dead, .dead, .dead, .dead, .dead, .dead, .dead, .dead, .dead, .dead], [⟨50, (.pair (.pair (.sl 25 (.pair (.sl 2 (.int .i64)) (.pair (.int .i64) (.pair (.int .i64) .unit)))) (.pair (.sl 25 (.pair (.sl 2 (.int .i64)) (.pair (.int .i64) (.pair (.int .i64) .unit)))) .unit)) (.pair (.pair (.sl 2 (.int .i64)) (.pair (.int .i64) (.pair (.int .i64) .unit))) (.pair (.int .i64) .unit))), .imm, true, false⟩, ⟨51, (.pair (.sl 25 (.pair (.sl 2 (.int .i64)) (.pair (.int .i64) (.pair (.int .i64) .unit)))) (.pair (.sl 25 (.pair (.sl 2 (.int .i64)) (.pair (.int .i64) (.pair (.int .i64) .unit)))) .unit)), .imm, true, false⟩, ⟨52, (.pair (.sl 2 (.int .i64)) (.pair (.int .i64) (.pair (.int .i64) .unit))), .imm, true, false⟩]⟩
def impl_UndoRun.xs7 : List XS := [⟨.exit 0, [4, 5, 6], ⟨[.dead, .dead, .dead, .dead, .ptr 50 [], .ptr 51 [], .ptr 52 [], .dead, .dead, .dead, .dead, .dead, .dead, .dead, .dead, .dead, .dead, .dead, .dead, .dead, .dead, .dead, .dead, .dead, .dead, .dead, .dead, .dead, .dead, .dead, .dead, .dead, .dead, .dead, .dead, .dead, .dead, .dead, .dead, .dead, .dead, .dead, .dead, .dead, .dead, .dead, .dead, .dead, .dead, .dead, .dead, .dead, .dead, .dead, .dead, .dead, .dead, .dead, .dead, .dead, .dead, .dead, .dead, .dead], [⟨50, (.pair (.pair (.sl 25 (.pair (.sl 2 (.int .i64)) (.pair (.int .i64) (.pair (.int .i64) .unit)))) (.pair (.sl 25 (.pair (.sl 2 (.int .i64)) (.pair (.int .i64) (.pair (.int .i64) .unit)))) .unit)) (.pair (.pair (.sl 2 (.int .i64)) (.pair (.int .i64) (.pair (.int .i64) .unit))) (.pair (.int .i64) .unit))), .imm, true, false⟩, ⟨51, (.pair (.sl 25 (.pair (.sl 2 (.int .i64)) (.pair (.int .i64) (.pair (.int .i64) .unit)))) (.pair (.sl 25 (.pair (.sl 2 (.int .i64)) (.pair (.int .i64) (.pair (.int .i64) .unit)))) .unit)), .imm, true, false⟩, ⟨52, (.pair (.sl 2 (.int .i64)) (.pair (.int .i64) (.pair (.int .i64) .unit))), .imm, true, false⟩]⟩⟩]
noncomputable def impl_UndoRun.con (N : Nat) : Con := { modes := [.v, .v], ptrs := [false], fn := fun ds k => match ds with | [d0, d1] => castDm (.pair (.sl 2 (.int .i64)) (.pair (.int .i64) (.pair (.int .i64) .unit))) .imm d0 fun x0 => castDm (.sl 23 (.sl 2 (.int .i64))) .imm d1 fun x1 => bindO (impl_UndoRun N x0 x1) fun r => k [⟨(.pair (.pair (.sl 25 (.pair (.sl 2 (.int .i64)) (.pair (.int .i64) (.pair (.int .i64) .unit)))) (.pair (.sl 25 (.pair (.sl 2 (.int .i64)) (.pair (.int .i64) (.pair (.int .i64) .unit)))) .unit)) (.pair (.pair (.sl 2 (.int .i64)) (.pair (.int .i64) (.pair (.int .i64) .unit))) (.pair (.int .i64) .unit))), .imm, r⟩] [] | _ => none }
noncomputable def impl_UndoRun.cfg (N : Nat) : Cfg := { ty := tys, keep := [], flt := [4, 5, 6, 9, 10, 23], elm := [(22, (.own .imm)), (23, (.own .imm)), (24, (.pr (.own .imm) .imm)), (25, (.pr (.own .imm) .imm)), (26, (.own (.own .imm))), (29, (.own (.pr (.own .imm) .imm))), (30, (.pr (.own (.pr (.own .imm) .imm)) (.pr (.own (.pr (.own .imm) .imm)) .imm))), (31, (.pr (.own (.pr (.own .imm) .imm)) (.pr (.own (.pr (.own .imm) .imm)) .imm))), (32, (.pr (.pr (.own (.pr (.own .imm) .imm)) (.pr (.own (.pr (.own .imm) .imm)) .imm)) (.pr (.pr (.own .imm) .imm) .imm))), (33, (.pr (.pr (.own (.pr (.own .imm) .imm)) (.pr (.own (.pr (.own .imm) .imm)) .imm)) (.pr (.pr (.own .imm) .imm) .imm))), (44, (.pr (.own .imm) .imm)), (45, (.pr (.own .imm) .imm)), (52, (.pr (.pr (.own .imm) .imm) (.pr (.own .imm) .imm))), (53, (.pr (.pr (.own .imm) .imm) (.pr (.own .imm) .imm)))], live := [(7, [4, 5, 6, 26, 27, 28])], ord := [(12, [0, 1, 2, 3, 4, 5])], con := [((21, [.one]), impl_isMany.con N), ((22, [.one]), impl_BufRight.con N), ((23, [.one, .fn 24 0]), slices_ContainsFunc_S_Sint64__Sint64__impl_UndoRun_c1.con N), ((26, [.one]), impl_ownBuf.con N), ((27, [.one, .one]), impl_UndoBack.con N), ((28, [.one, .one, .one, .one]), impl_replace.con N), ((29, [.one, .one]), impl_UndoNote.con N)], loops := [(7, loopCon N impl_UndoRun.sk7 impl_UndoRun.xs7 (fun {R} => impl_UndoRun.l7 (R := R) N))], joins := [(17, [⟨.normal, [4, 5, 6, 26, 27, 28], ⟨[.dead, .dead, .dead, .dead, .ptr 50 [], .ptr 51 [], .ptr 52 [], .dead, .dead, .dead, .dead, .dead, .dead, .dead, .dead, .dead, .dead, .dead, .dead, .dead, .dead, .dead, .dead, .dead, .dead, .dead, .pv (.sl 23 (.sl 2 (.int .i64))), .pv (.int .i64), .pv (.int .i64), .dead, .dead, .dead, .dead, .dead, .dead, .dead, .dead, .dead, .dead, .dead, .dead, .dead, .dead, .dead, .dead, .dead, .dead, .dead, .dead, .dead, .dead, .dead, .dead, .dead, .dead, .dead, .dead, .dead, .dead, .dead, .dead, .dead, .dead, .dead], [⟨50, (.pair (.pair (.sl 25 (.pair (.sl 2 (.int .i64)) (.pair (.int .i64) (.pair (.int .i64) .unit)))) (.pair (.sl 25 (.pair (.sl 2 (.int .i64)) (.pair (.int .i64) (.pair (.int .i64) .unit)))) .unit)) (.pair (.pair (.sl 2 (.int .i64)) (.pair (.int .i64) (.pair (.int .i64) .unit))) (.pair (.int .i64) .unit))), .imm, true, false⟩, ⟨51, (.pair (.sl 25 (.pair (.sl 2 (.int .i64)) (.pair (.int .i64) (.pair (.int .i64) .unit)))) (.pair (.sl 25 (.pair (.sl 2 (.int .i64)) (.pair (.int .i64) (.pair (.int .i64) .unit)))) .unit)), .imm, true, false⟩, ⟨52, (.pair (.sl 2 (.int .i64)) (.pair (.int .i64) (.pair (.int .i64) .unit))), .imm, true, false⟩]⟩⟩])] }
theorem impl_UndoRun.cons (N : Nat) : ConsOk Try.prog (impl_UndoRun.cfg N).con := (consOk_cons (hb21) (impl_isMany.ok N) (impl_isMany.det N) (consOk_cons (hb22) (impl_BufRight.ok N) (impl_BufRight.det N) (consOk_cons (hb23) (slices_ContainsFunc_S_Sint64__Sint64__impl_UndoRun_c1.ok N) (slices_ContainsFunc_S_Sint64__Sint64__impl_UndoRun_c1.det N) (consOk_cons (hb26) (impl_ownBuf.ok N) (impl_ownBuf.det N) (consOk_cons (hb27) (impl_UndoBack.ok N) (impl_UndoBack.det N) (consOk_cons (hb28) (impl_replace.ok N) (impl_replace.det N) (consOk_cons (hb29) (impl_UndoNote.ok N) (impl_UndoNote.det N) consOk_nil)))))))
theorem impl_UndoRun.h7 {R : Type} (N : Nat) (d : impl_UndoRun.sk7.D) (kn : impl_UndoRun.sk7.D → Option R) (kx : XD impl_UndoRun.xs7 → Option R) : roundK (impl_UndoRun.cfg N) N (nthLoop (fnBody Try.f6) 0) impl_UndoRun.sk7 impl_UndoRun.xs7 d kn kx = impl_UndoRun.l7 N d kn kx := by kernel_rfl
theorem impl_UndoRun.i7 (N : Nat) : LoopsOk Try.prog (impl_UndoRun.cfg N) (nthLoop (fnBody Try.f6) 0) := loopsL (l := []) (by kernel_rfl) trivial
theorem impl_UndoRun.o7 (N : Nat) : LoopOk Try.prog (nthLoop (fnBody Try.f6) 0) (loopCon N impl_UndoRun.sk7 impl_UndoRun.xs7 (fun {R} => impl_UndoRun.l7 (R := R) N)) := loop_ok (g := impl_UndoRun.cfg N) tys_ok (impl_UndoRun.cons N) mixed (impl_UndoRun.i7 N) (fun d kn kx => impl_UndoRun.h7 N d kn kx)
theorem impl_UndoRun.ls (N : Nat) : LoopsOk Try.prog (impl_UndoRun.cfg N) (fnBody Try.f6) := loopsL (l := [nthLoop (fnBody Try.f6) 0]) (by kernel_rfl) ⟨loopOne (L0 := loopCon N impl_UndoRun.sk7 impl_UndoRun.xs7 (fun {R} => impl_UndoRun.l7 (R := R) N)) (id := 7) (by kernel_rfl) (by kernel_rfl) (impl_UndoRun.o7 N), trivial⟩
theorem impl_UndoRun.q7 {R R' : Type} {N n : Nat} {d} {k} {g : R → Option R'} : bindF (loopP (impl_UndoRun.l7 N) n d k) g = loopP (impl_UndoRun.l7 N) n d fun e => bindF (k e) g := bindF_loopP (fun d kn kx => by simp only [impl_UndoRun.l7, bindF_ifB, bindF_bindO, bindF_pure, bindF_none, bindF_onSum]) n d k
theorem impl_UndoRun.b (N : Nat) (x0 : den (.pair (.sl 2 (.int .i64)) (.pair (.int .i64) (.pair (.int .i64) .unit)))) (x1 : den (.sl 23 (.sl 2 (.int .i64)))) : body (impl_UndoRun.cfg N) N Try.f6 [.one, .one] [.v, .v] [(false, .imm)] [⟨(.pair (.sl 2 (.int .i64)) (.pair (.int .i64) (.pair (.int .i64) .unit))), .imm, x0⟩, ⟨(.sl 23 (.sl 2 (.int .i64))), .imm, x1⟩] (fun r i => some (r, i)) = bindO (impl_UndoRun N x0 x1) fun r => some ([⟨(.pair (.pair (.sl 25 (.pair (.sl 2 (.int .i64)) (.pair (.int .i64) (.pair (.int .i64) .unit)))) (.pair (.sl 25 (.pair (.sl 2 (.int .i64)) (.pair (.int .i64) (.pair (.int .i64) .unit)))) .unit)) (.pair (.pair (.sl 2 (.int .i64)) (.pair (.int .i64) (.pair (.int .i64) .unit))) (.pair (.int .i64) .unit))), .imm, r⟩], []) := by
  show _ = bindF _ _
  conv => rhs; simp only [impl_UndoRun, bindF_ifB, bindF_bindO, bindF_pure, bindF_none, bindF_onSum, impl_UndoRun.q7]
  kernel_rfl
theorem impl_UndoRun.ok (N : Nat) : ConOk Try.prog 6 [.one, .one] (impl_UndoRun.con N) := by
  refine conOk_mk (g := impl_UndoRun.cfg N) (N := N) (res := [(false, .imm)]) tys_ok (impl_UndoRun.cons N) mixed Try.func6 (impl_UndoRun.ls N) rfl rfl ?_
  intro ds R k y h
  cases ds with
  | nil => exact none_some h
  | cons d0 ds =>
  cases ds with
  | nil => exact none_some h
  | cons d1 ds =>
  cases ds with
  | cons _ _ => exact none_some h
  | nil =>
  have h0 : (castDm (.pair (.sl 2 (.int .i64)) (.pair (.int .i64) (.pair (.int .i64) .unit))) .imm d0 fun x0 => castDm (.sl 23 (.sl 2 (.int .i64))) .imm d1 fun x1 => bindO (impl_UndoRun N x0 x1) fun r => k [⟨(.pair (.pair (.sl 25 (.pair (.sl 2 (.int .i64)) (.pair (.int .i64) (.pair (.int .i64) .unit)))) (.pair (.sl 25 (.pair (.sl 2 (.int .i64)) (.pair (.int .i64) (.pair (.int .i64) .unit)))) .unit)) (.pair (.pair (.sl 2 (.int .i64)) (.pair (.int .i64) (.pair (.int .i64) .unit))) (.pair (.int .i64) .unit))), .imm, r⟩] []) = some y := h
  clear h
  obtain ⟨x0, rfl, h1⟩ := castDm_eq h0
  obtain ⟨x1, rfl, h2⟩ := castDm_eq h1
  exact con_fin (impl_UndoRun.b N x0 x1) h2
theorem impl_UndoRun.det (N : Nat) : ConDet (impl_UndoRun.con N) := by
  intro ds R k y h
  cases ds with
  | nil => exact none_some h
  | cons d0 ds =>
  cases ds with
  | nil => exact none_some h
  | cons d1 ds =>
  cases ds with
  | cons _ _ => exact none_some h
  | nil =>
  have h0 : (castDm (.pair (.sl 2 (.int .i64)) (.pair (.int .i64) (.pair (.int .i64) .unit))) .imm d0 fun x0 => castDm (.sl 23 (.sl 2 (.int .i64))) .imm d1 fun x1 => bindO (impl_UndoRun N x0 x1) fun r => k [⟨(.pair (.pair (.sl 25 (.pair (.sl 2 (.int .i64)) (.pair (.int .i64) (.pair (.int .i64) .unit)))) (.pair (.sl 25 (.pair (.sl 2 (.int .i64)) (.pair (.int .i64) (.pair (.int .i64) .unit)))) .unit)) (.pair (.pair (.sl 2 (.int .i64)) (.pair (.int .i64) (.pair (.int .i64) .unit))) (.pair (.int .i64) .unit))), .imm, r⟩] []) = some y := h
  clear h
  obtain ⟨x0, rfl, h1⟩ := castDm_eq h0
  obtain ⟨x1, rfl, h2⟩ := castDm_eq h1
  obtain ⟨r, e, h⟩ := bindO_some h2
  refine ⟨_, _, h, fun k' => ?_⟩
  show (castDm (.pair (.sl 2 (.int .i64)) (.pair (.int .i64) (.pair (.int .i64) .unit))) .imm (⟨(.pair (.sl 2 (.int .i64)) (.pair (.int .i64) (.pair (.int .i64) .unit))), .imm, x0⟩ : Dy) fun x0 => castDm (.sl 23 (.sl 2 (.int .i64))) .imm (⟨(.sl 23 (.sl 2 (.int .i64))), .imm, x1⟩ : Dy) fun x1 => bindO (impl_UndoRun N x0 x1) fun r => k' [⟨(.pair (.pair (.sl 25 (.pair (.sl 2 (.int .i64)) (.pair (.int .i64) (.pair (.int .i64) .unit)))) (.pair (.sl 25 (.pair (.sl 2 (.int .i64)) (.pair (.int .i64) (.pair (.int .i64) .unit)))) .unit)) (.pair (.pair (.sl 2 (.int .i64)) (.pair (.int .i64) (.pair (.int .i64) .unit))) (.pair (.int .i64) .unit))), .imm, r⟩] []) = _
  simp only [castDm_self]
  rw [e]
  rfl
def laws_lwSame.sk4 : Skel := ⟨[.pv (.sl 2 (.int .i64)), .pv (.sl 2 (.int .i64)), .dead, .dead, .dead, .pv (.int .i64), .dead, .dead, .dead, .dead, .dead, .dead, .dead, .dead, .dead, .dead, .dead, .dead, .dead, .dead, .dead, .dead, .dead, .dead, .dead, .dead], []⟩
def laws_lwSame.xs4 : List XS := [⟨.exit 0, [], ⟨[.dead, .dead, .dead, .dead, .dead, .dead, .dead, .dead, .dead, .dead, .dead, .dead, .dead, .dead, .dead, .dead, .dead, .dead, .dead, .dead, .dead, .dead, .dead, .dead, .dead, .dead], []⟩⟩, ⟨.ret, [4], ⟨[.dead, .dead, .dead, .dead, .pv .bool, .dead, .dead, .dead, .dead, .dead, .dead, .dead, .dead, .dead, .dead, .dead, .dead, .dead, .dead, .dead, .dead, .dead, .dead, .dead, .dead, .dead], []⟩⟩]
noncomputable def laws_lwSame.con (N : Nat) : Con := { modes := [.v, .v], ptrs := [false], fn := fun ds k => match ds with | [d0, d1] => castDm (.sl 2 (.int .i64)) .imm d0 fun x0 => castDm (.sl 2 (.int .i64)) .imm d1 fun x1 => bindO (laws_lwSame N x0 x1) fun r => k [⟨.bool, .imm, r⟩] [] | _ => none }
noncomputable def laws_lwSame.cfg (N : Nat) : Cfg := { ty := tys, keep := [], flt := [], elm := [(22, (.own .imm)), (23, (.own .imm)), (24, (.pr (.own .imm) .imm)), (25, (.pr (.own .imm) .imm)), (26, (.own (.own .imm))), (29, (.own (.pr (.own .imm) .imm))), (30, (.pr (.own (.pr (.own .imm) .imm)) (.pr (.own (.pr (.own .imm) .imm)) .imm))), (31, (.pr (.own (.pr (.own .imm) .imm)) (.pr (.own (.pr (.own .imm) .imm)) .imm))), (32, (.pr (.pr (.own (.pr (.own .imm) .imm)) (.pr (.own (.pr (.own .imm) .imm)) .imm)) (.pr (.pr (.own .imm) .imm) .imm))), (33, (.pr (.pr (.own (.pr (.own .imm) .imm)) (.pr (.own (.pr (.own .imm) .imm)) .imm)) (.pr (.pr (.own .imm) .imm) .imm))), (44, (.pr (.own .imm) .imm)), (45, (.pr (.own .imm) .imm)), (52, (.pr (.pr (.own .imm) .imm) (.pr (.own .imm) .imm))), (53, (.pr (.pr (.own .imm) .imm) (.pr (.own .imm) .imm)))], live := [(4, [0, 1, 5])], ord := [(6, [0, 1, 2, 3, 4, 5, 6, 7, 8])], con := [], loops := [(4, loopCon N laws_lwSame.sk4 laws_lwSame.xs4 (fun {R} => laws_lwSame.l4 (R := R) N))], joins := [] }
theorem laws_lwSame.cons (N : Nat) : ConsOk Try.prog (laws_lwSame.cfg N).con := consOk_nil
theorem laws_lwSame.h4 {R : Type} (N : Nat) (d : laws_lwSame.sk4.D) (kn : laws_lwSame.sk4.D → Option R) (kx : XD laws_lwSame.xs4 → Option R) : roundK (laws_lwSame.cfg N) N (nthLoop (fnBody Try.f30) 0) laws_lwSame.sk4 laws_lwSame.xs4 d kn kx = laws_lwSame.l4 N d kn kx := by kernel_rfl
theorem laws_lwSame.i4 (N : Nat) : LoopsOk Try.prog (laws_lwSame.cfg N) (nthLoop (fnBody Try.f30) 0) := loopsL (l := []) (by kernel_rfl) trivial
theorem laws_lwSame.o4 (N : Nat) : LoopOk Try.prog (nthLoop (fnBody Try.f30) 0) (loopCon N laws_lwSame.sk4 laws_lwSame.xs4 (fun {R} => laws_lwSame.l4 (R := R) N)) := loop_ok (g := laws_lwSame.cfg N) tys_ok (laws_lwSame.cons N) mixed (laws_lwSame.i4 N) (fun d kn kx => laws_lwSame.h4 N d kn kx)
theorem laws_lwSame.ls (N : Nat) : LoopsOk Try.prog (laws_lwSame.cfg N) (fnBody Try.f30) := loopsL (l := [nthLoop (fnBody Try.f30) 0]) (by kernel_rfl) ⟨loopOne (L0 := loopCon N laws_lwSame.sk4 laws_lwSame.xs4 (fun {R} => laws_lwSame.l4 (R := R) N)) (id := 4) (by kernel_rfl) (by kernel_rfl) (laws_lwSame.o4 N), trivial⟩
theorem laws_lwSame.q4 {R R' : Type} {N n : Nat} {d} {k} {g : R → Option R'} : bindF (loopP (laws_lwSame.l4 N) n d k) g = loopP (laws_lwSame.l4 N) n d fun e => bindF (k e) g := bindF_loopP (fun d kn kx => by simp only [laws_lwSame.l4, bindF_ifB, bindF_bindO, bindF_pure, bindF_none, bindF_onSum]) n d k
theorem laws_lwSame.b (N : Nat) (x0 : den (.sl 2 (.int .i64))) (x1 : den (.sl 2 (.int .i64))) : body (laws_lwSame.cfg N) N Try.f30 [.one, .one] [.v, .v] [(false, .imm)] [⟨(.sl 2 (.int .i64)), .imm, x0⟩, ⟨(.sl 2 (.int .i64)), .imm, x1⟩] (fun r i => some (r, i)) = bindO (laws_lwSame N x0 x1) fun r => some ([⟨.bool, .imm, r⟩], []) := by
  show _ = bindF _ _
  conv => rhs; simp only [laws_lwSame, bindF_ifB, bindF_bindO, bindF_pure, bindF_none, bindF_onSum, laws_lwSame.q4]
  kernel_rfl
theorem laws_lwSame.ok (N : Nat) : ConOk Try.prog 30 [.one, .one] (laws_lwSame.con N) := by
  refine conOk_mk (g := laws_lwSame.cfg N) (N := N) (res := [(false, .imm)]) tys_ok (laws_lwSame.cons N) mixed Try.func30 (laws_lwSame.ls N) rfl rfl ?_
  intro ds R k y h
  cases ds with
  | nil => exact none_some h
  | cons d0 ds =>
  cases ds with
  | nil => exact none_some h
  | cons d1 ds =>
  cases ds with
  | cons _ _ => exact none_some h
  | nil =>
  have h0 : (castDm (.sl 2 (.int .i64)) .imm d0 fun x0 => castDm (.sl 2 (.int .i64)) .imm d1 fun x1 => bindO (laws_lwSame N x0 x1) fun r => k [⟨.bool, .imm, r⟩] []) = some y := h
  clear h
  obtain ⟨x0, rfl, h1⟩ := castDm_eq h0
  obtain ⟨x1, rfl, h2⟩ := castDm_eq h1
  exact con_fin (laws_lwSame.b N x0 x1) h2
theorem laws_lwSame.det (N : Nat) : ConDet (laws_lwSame.con N) := by
  intro ds R k y h
  cases ds with
  | nil => exact none_some h
  | cons d0 ds =>
  cases ds with
  | nil => exact none_some h
  | cons d1 ds =>
  cases ds with
  | cons _ _ => exact none_some h
  | nil =>
  have h0 : (castDm (.sl 2 (.int .i64)) .imm d0 fun x0 => castDm (.sl 2 (.int .i64)) .imm d1 fun x1 => bindO (laws_lwSame N x0 x1) fun r => k [⟨.bool, .imm, r⟩] []) = some y := h
  clear h
  obtain ⟨x0, rfl, h1⟩ := castDm_eq h0
  obtain ⟨x1, rfl, h2⟩ := castDm_eq h1
  obtain ⟨r, e, h⟩ := bindO_some h2
  refine ⟨_, _, h, fun k' => ?_⟩
  show (castDm (.sl 2 (.int .i64)) .imm (⟨(.sl 2 (.int .i64)), .imm, x0⟩ : Dy) fun x0 => castDm (.sl 2 (.int .i64)) .imm (⟨(.sl 2 (.int .i64)), .imm, x1⟩ : Dy) fun x1 => bindO (laws_lwSame N x0 x1) fun r => k' [⟨.bool, .imm, r⟩] []) = _
  simp only [castDm_self]
  rw [e]
  rfl
noncomputable def laws_lwBuf.con (N : Nat) : Con := { modes := [.v, .v], ptrs := [false], fn := fun ds k => match ds with | [d0, d1] => castDm (.pair (.sl 2 (.int .i64)) (.pair (.int .i64) (.pair (.int .i64) .unit))) .imm d0 fun x0 => castDm (.pair (.sl 2 (.int .i64)) (.pair (.int .i64) (.pair (.int .i64) .unit))) .imm d1 fun x1 => bindO (laws_lwBuf N x0 x1) fun r => k [⟨.bool, .imm, r⟩] [] | _ => none }
noncomputable def laws_lwBuf.cfg (N : Nat) : Cfg := { ty := tys, keep := [9], flt := [], elm := [(22, (.own .imm)), (23, (.own .imm)), (24, (.pr (.own .imm) .imm)), (25, (.pr (.own .imm) .imm)), (26, (.own (.own .imm))), (29, (.own (.pr (.own .imm) .imm))), (30, (.pr (.own (.pr (.own .imm) .imm)) (.pr (.own (.pr (.own .imm) .imm)) .imm))), (31, (.pr (.own (.pr (.own .imm) .imm)) (.pr (.own (.pr (.own .imm) .imm)) .imm))), (32, (.pr (.pr (.own (.pr (.own .imm) .imm)) (.pr (.own (.pr (.own .imm) .imm)) .imm)) (.pr (.pr (.own .imm) .imm) .imm))), (33, (.pr (.pr (.own (.pr (.own .imm) .imm)) (.pr (.own (.pr (.own .imm) .imm)) .imm)) (.pr (.pr (.own .imm) .imm) .imm))), (44, (.pr (.own .imm) .imm)), (45, (.pr (.own .imm) .imm)), (52, (.pr (.pr (.own .imm) .imm) (.pr (.own .imm) .imm))), (53, (.pr (.pr (.own .imm) .imm) (.pr (.own .imm) .imm)))], live := [], ord := [], con := [((30, [.one, .one]), laws_lwSame.con N)], loops := [], joins := [] }
theorem laws_lwBuf.cons (N : Nat) : ConsOk Try.prog (laws_lwBuf.cfg N).con := (consOk_cons (hb30) (laws_lwSame.ok N) (laws_lwSame.det N) consOk_nil)
theorem laws_lwBuf.ls (N : Nat) : LoopsOk Try.prog (laws_lwBuf.cfg N) (fnBody Try.f9) := loopsL (l := []) (by kernel_rfl) trivial
theorem laws_lwBuf.b (N : Nat) (x0 : den (.pair (.sl 2 (.int .i64)) (.pair (.int .i64) (.pair (.int .i64) .unit)))) (x1 : den (.pair (.sl 2 (.int .i64)) (.pair (.int .i64) (.pair (.int .i64) .unit)))) : body (laws_lwBuf.cfg N) N Try.f9 [.one, .one] [.v, .v] [(false, .imm)] [⟨(.pair (.sl 2 (.int .i64)) (.pair (.int .i64) (.pair (.int .i64) .unit))), .imm, x0⟩, ⟨(.pair (.sl 2 (.int .i64)) (.pair (.int .i64) (.pair (.int .i64) .unit))), .imm, x1⟩] (fun r i => some (r, i)) = bindO (laws_lwBuf N x0 x1) fun r => some ([⟨.bool, .imm, r⟩], []) := by
  show _ = bindF _ _
  conv => rhs; simp only [laws_lwBuf, bindF_ifB, bindF_bindO, bindF_pure, bindF_none, bindF_onSum]
  kernel_rfl
theorem laws_lwBuf.ok (N : Nat) : ConOk Try.prog 9 [.one, .one] (laws_lwBuf.con N) := by
  refine conOk_mk (g := laws_lwBuf.cfg N) (N := N) (res := [(false, .imm)]) tys_ok (laws_lwBuf.cons N) mixed Try.func9 (laws_lwBuf.ls N) rfl rfl ?_
  intro ds R k y h
  cases ds with
  | nil => exact none_some h
  | cons d0 ds =>
  cases ds with
  | nil => exact none_some h
  | cons d1 ds =>
  cases ds with
  | cons _ _ => exact none_some h
  | nil =>
  have h0 : (castDm (.pair (.sl 2 (.int .i64)) (.pair (.int .i64) (.pair (.int .i64) .unit))) .imm d0 fun x0 => castDm (.pair (.sl 2 (.int .i64)) (.pair (.int .i64) (.pair (.int .i64) .unit))) .imm d1 fun x1 => bindO (laws_lwBuf N x0 x1) fun r => k [⟨.bool, .imm, r⟩] []) = some y := h
  clear h
  obtain ⟨x0, rfl, h1⟩ := castDm_eq h0
  obtain ⟨x1, rfl, h2⟩ := castDm_eq h1
  exact con_fin (laws_lwBuf.b N x0 x1) h2
theorem laws_lwBuf.det (N : Nat) : ConDet (laws_lwBuf.con N) := by
  intro ds R k y h
  cases ds with
  | nil => exact none_some h
  | cons d0 ds =>
  cases ds with
  | nil => exact none_some h
  | cons d1 ds =>
  cases ds with
  | cons _ _ => exact none_some h
  | nil =>
  have h0 : (castDm (.pair (.sl 2 (.int .i64)) (.pair (.int .i64) (.pair (.int .i64) .unit))) .imm d0 fun x0 => castDm (.pair (.sl 2 (.int .i64)) (.pair (.int .i64) (.pair (.int .i64) .unit))) .imm d1 fun x1 => bindO (laws_lwBuf N x0 x1) fun r => k [⟨.bool, .imm, r⟩] []) = some y := h
  clear h
  obtain ⟨x0, rfl, h1⟩ := castDm_eq h0
  obtain ⟨x1, rfl, h2⟩ := castDm_eq h1
  obtain ⟨r, e, h⟩ := bindO_some h2
  refine ⟨_, _, h, fun k' => ?_⟩
  show (castDm (.pair (.sl 2 (.int .i64)) (.pair (.int .i64) (.pair (.int .i64) .unit))) .imm (⟨(.pair (.sl 2 (.int .i64)) (.pair (.int .i64) (.pair (.int .i64) .unit))), .imm, x0⟩ : Dy) fun x0 => castDm (.pair (.sl 2 (.int .i64)) (.pair (.int .i64) (.pair (.int .i64) .unit))) .imm (⟨(.pair (.sl 2 (.int .i64)) (.pair (.int .i64) (.pair (.int .i64) .unit))), .imm, x1⟩ : Dy) fun x1 => bindO (laws_lwBuf N x0 x1) fun r => k' [⟨.bool, .imm, r⟩] []) = _
  simp only [castDm_self]
  rw [e]
  rfl
def laws_FnUndoAll.sk9 : Skel := ⟨[.dead, .dead, .dead, .ptr 50 [], .pv (.sl 23 (.sl 2 (.int .i64))), .ov 51 [], .ov 52 [], .pv (.int .i64), .dead, .dead, .dead, .dead, .dead, .dead, .dead, .dead, .dead, .dead, .dead, .dead, .dead, .dead, .dead, .dead, .dead, .dead, .dead, .dead, .dead, .dead, .dead, .dead, .dead, .dead, .dead, .dead, .dead, .dead, .dead, .dead, .dead, .dead, .dead, .dead, .dead, .dead, .dead, .dead, .dead, .dead, .dead, .dead, .dead, .dead, .dead, .dead, .dead, .dead, .dead, .dead, .dead, .dead, .dead, .dead, .dead, .dead, .dead, .dead, .dead, .dead, .dead, .dead, .dead, .dead, .dead, .dead, .dead, .dead, .dead, .dead, .dead, .dead, .dead, .dead, .dead, .dead, .dead, .dead, .dead, .dead, .dead, .dead, .dead, .dead, .dead, .dead, .dead], [⟨50, (.pair (.sl 2 (.int .i64)) (.pair (.int .i64) (.pair (.int .i64) .unit))), .imm, true, false⟩, ⟨51, (.sl 23 (.sl 2 (.int .i64))), (.own .imm), false, false⟩, ⟨52, (.sl 23 (.sl 2 (.int .i64))), (.own .imm), false, false⟩]⟩
def laws_FnUndoAll.xs9 : List XS := [⟨.exit 0, [3, 5, 6, 85, 86, 87, 88, 91, 92, 93, 94, 95], ⟨[.dead, .dead, .dead, .ptr 50 [], .dead, .ov 51 [], .ov 52 [], .dead, .dead, .dead, .dead, .dead, .dead, .dead, .dead, .dead, .dead, .dead, .dead, .dead, .dead, .dead, .dead, .dead, .dead, .dead, .dead, .dead, .dead, .dead, .dead, .dead, .dead, .dead, .dead, .dead, .dead, .dead, .dead, .dead, .dead, .dead, .dead, .dead, .dead, .dead, .dead, .dead, .dead, .dead, .dead, .dead, .dead, .dead, .dead, .dead, .dead, .dead, .dead, .dead, .dead, .dead, .dead, .dead, .dead, .dead, .dead, .dead, .dead, .dead, .dead, .dead, .dead, .dead, .dead, .dead, .dead, .dead, .dead, .dead, .dead, .dead, .dead, .dead, .dead, .dead, .dead, .dead, .dead, .dead, .dead, .dead, .dead, .dead, .dead, .dead, .dead], [⟨50, (.pair (.sl 2 (.int .i64)) (.pair (.int .i64) (.pair (.int .i64) .unit))), .imm, true, false⟩, ⟨51, (.sl 23 (.sl 2 (.int .i64))), (.own .imm), false, false⟩, ⟨52, (.sl 23 (.sl 2 (.int .i64))), (.own .imm), false, false⟩]⟩⟩]
noncomputable def laws_FnUndoAll.con (N : Nat) : Con := { modes := [.v], ptrs := [false], fn := fun ds k => match ds with | [d0] => castDm (.sl 5 (.int .u8)) .imm d0 fun x0 => bindO (laws_FnUndoAll N x0) fun r => k [⟨.bool, .imm, r⟩] [] | _ => none }
noncomputable def laws_FnUndoAll.cfg (N : Nat) : Cfg := { ty := tys, keep := [], flt := [], elm := [], live := [(9, [3, 4, 5, 6, 7, 48, 49, 50, 85, 86, 87, 88, 91, 92, 93, 94, 95])], ord := [(5, [0, 1, 5, 6, 2, 3, 4, 7, 8, 9, 10]), (14, [4, 0, 1, 2, 3, 5]), (15, [0, 1, 2, 3, 4, 5, 6, 7]), (17, [5, 0, 1, 2, 3, 4, 6])], con := [((4, [.one]), spec_DrawUndoRun.con N), ((5, [.one, .one]), spec_UndoRun.con N), ((7, [.one]), laws_lwAll.con N), ((6, [.one, .one]), impl_UndoRun.con N), ((8, [.one]), laws_lwCopy.con N), ((9, [.one, .one]), laws_lwBuf.con N)], loops := [(9, loopCon N laws_FnUndoAll.sk9 laws_FnUndoAll.xs9 (fun {R} => laws_FnUndoAll.l9 (R := R) N))], joins := [(10, [⟨.normal, [3, 4, 5, 6, 7, 48, 49, 50, 85, 86, 87, 88, 91, 92, 93, 94, 95], ⟨[.dead, .dead, .dead, .ptr 50 [], .pv (.sl 23 (.sl 2 (.int .i64))), .ov 51 [], .ov 52 [], .pv (.int .i64), .dead, .dead, .dead, .dead, .dead, .dead, .dead, .dead, .dead, .dead, .dead, .dead, .dead, .dead, .dead, .dead, .dead, .dead, .dead, .dead, .dead, .dead, .dead, .dead, .dead, .dead, .dead, .dead, .dead, .dead, .dead, .dead, .dead, .dead, .dead, .dead, .dead, .dead, .dead, .dead, .dead, .dead, .dead, .dead, .dead, .dead, .dead, .dead, .dead, .dead, .dead, .dead, .dead, .dead, .dead, .dead, .dead, .dead, .dead, .dead, .dead, .dead, .dead, .dead, .dead, .dead, .dead, .dead, .dead, .dead, .dead, .dead, .dead, .dead, .dead, .dead, .dead, .dead, .dead, .dead, .dead, .dead, .dead, .dead, .dead, .dead, .dead, .dead, .dead], [⟨50, (.pair (.sl 2 (.int .i64)) (.pair (.int .i64) (.pair (.int .i64) .unit))), .imm, true, false⟩, ⟨51, (.sl 23 (.sl 2 (.int .i64))), (.own .imm), false, false⟩, ⟨52, (.sl 23 (.sl 2 (.int .i64))), (.own .imm), false, false⟩]⟩⟩])] }
theorem laws_FnUndoAll.cons (N : Nat) : ConsOk Try.prog (laws_FnUndoAll.cfg N).con := (consOk_cons (hb4) (spec_DrawUndoRun.ok N) (spec_DrawUndoRun.det N) (consOk_cons (hb5) (spec_UndoRun.ok N) (spec_UndoRun.det N) (consOk_cons (hb7) (laws_lwAll.ok N) (laws_lwAll.det N) (consOk_cons (hb6) (impl_UndoRun.ok N) (impl_UndoRun.det N) (consOk_cons (hb8) (laws_lwCopy.ok N) (laws_lwCopy.det N) (consOk_cons (hb9) (laws_lwBuf.ok N) (laws_lwBuf.det N) consOk_nil))))))
theorem laws_FnUndoAll.h9 {R : Type} (N : Nat) (d : laws_FnUndoAll.sk9.D) (kn : laws_FnUndoAll.sk9.D → Option R) (kx : XD laws_FnUndoAll.xs9 → Option R) : roundK (laws_FnUndoAll.cfg N) N (nthLoop (fnBody Try.f3) 0) laws_FnUndoAll.sk9 laws_FnUndoAll.xs9 d kn kx = laws_FnUndoAll.l9 N d kn kx := by kernel_rfl
theorem laws_FnUndoAll.i9 (N : Nat) : LoopsOk Try.prog (laws_FnUndoAll.cfg N) (nthLoop (fnBody Try.f3) 0) := loopsL (l := []) (by kernel_rfl) trivial
theorem laws_FnUndoAll.o9 (N : Nat) : LoopOk Try.prog (nthLoop (fnBody Try.f3) 0) (loopCon N laws_FnUndoAll.sk9 laws_FnUndoAll.xs9 (fun {R} => laws_FnUndoAll.l9 (R := R) N)) := loop_ok (g := laws_FnUndoAll.cfg N) tys_ok (laws_FnUndoAll.cons N) mixed (laws_FnUndoAll.i9 N) (fun d kn kx => laws_FnUndoAll.h9 N d kn kx)
theorem laws_FnUndoAll.ls (N : Nat) : LoopsOk Try.prog (laws_FnUndoAll.cfg N) (fnBody Try.f3) := loopsL (l := [nthLoop (fnBody Try.f3) 0]) (by kernel_rfl) ⟨loopOne (L0 := loopCon N laws_FnUndoAll.sk9 laws_FnUndoAll.xs9 (fun {R} => laws_FnUndoAll.l9 (R := R) N)) (id := 9) (by kernel_rfl) (by kernel_rfl) (laws_FnUndoAll.o9 N), trivial⟩
theorem laws_FnUndoAll.q9 {R R' : Type} {N n : Nat} {d} {k} {g : R → Option R'} : bindF (loopP (laws_FnUndoAll.l9 N) n d k) g = loopP (laws_FnUndoAll.l9 N) n d fun e => bindF (k e) g := bindF_loopP (fun d kn kx => by simp only [laws_FnUndoAll.l9, bindF_ifB, bindF_bindO, bindF_pure, bindF_none, bindF_onSum]) n d k
theorem laws_FnUndoAll.b (N : Nat) (x0 : den (.sl 5 (.int .u8))) : body (laws_FnUndoAll.cfg N) N Try.f3 [.one] [.v] [(false, .imm)] [⟨(.sl 5 (.int .u8)), .imm, x0⟩] (fun r i => some (r, i)) = bindO (laws_FnUndoAll N x0) fun r => some ([⟨.bool, .imm, r⟩], []) := by
  show _ = bindF _ _
  conv => rhs; simp only [laws_FnUndoAll, bindF_ifB, bindF_bindO, bindF_pure, bindF_none, bindF_onSum, laws_FnUndoAll.q9]
  kernel_rfl
theorem laws_FnUndoAll.ok (N : Nat) : ConOk Try.prog 3 [.one] (laws_FnUndoAll.con N) := by
  refine conOk_mk (g := laws_FnUndoAll.cfg N) (N := N) (res := [(false, .imm)]) tys_ok (laws_FnUndoAll.cons N) mixed Try.func3 (laws_FnUndoAll.ls N) rfl rfl ?_
  intro ds R k y h
  cases ds with
  | nil => exact none_some h
  | cons d0 ds =>
  cases ds with
  | cons _ _ => exact none_some h
  | nil =>
  have h0 : (castDm (.sl 5 (.int .u8)) .imm d0 fun x0 => bindO (laws_FnUndoAll N x0) fun r => k [⟨.bool, .imm, r⟩] []) = some y := h
  clear h
  obtain ⟨x0, rfl, h1⟩ := castDm_eq h0
  exact con_fin (laws_FnUndoAll.b N x0) h1
theorem laws_FnUndoAll.det (N : Nat) : ConDet (laws_FnUndoAll.con N) := by
  intro ds R k y h
  cases ds with
  | nil => exact none_some h
  | cons d0 ds =>
  cases ds with
  | cons _ _ => exact none_some h
  | nil =>
  have h0 : (castDm (.sl 5 (.int .u8)) .imm d0 fun x0 => bindO (laws_FnUndoAll N x0) fun r => k [⟨.bool, .imm, r⟩] []) = some y := h
  clear h
  obtain ⟨x0, rfl, h1⟩ := castDm_eq h0
  obtain ⟨r, e, h⟩ := bindO_some h1
  refine ⟨_, _, h, fun k' => ?_⟩
  show (castDm (.sl 5 (.int .u8)) .imm (⟨(.sl 5 (.int .u8)), .imm, x0⟩ : Dy) fun x0 => bindO (laws_FnUndoAll N x0) fun r => k' [⟨.bool, .imm, r⟩] []) = _
  simp only [castDm_self]
  rw [e]
  rfl
end Go.AE.F
