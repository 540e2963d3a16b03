/- The printed functions are what the program comes to: contracts. -/
import Derived.Test.YtbhhlcmjlhpehaaLYankL2
namespace Go.AE.F
open Go.AE Go.Proofs
set_option maxRecDepth 100000
noncomputable def slices_Grow_Sint64_int64.con (N : Nat) : Con := { modes := [.nl, .v], ptrs := [false], fn := fun ds k => match ds with | [d0, d1] => castDm (.sl 2 (.int .i64)) .imm d0 fun x0 => castDm (.int .i64) .imm d1 fun x1 => bindO (slices_Grow_Sint64_int64 N x0 x1) fun r => k [⟨(.sl 2 (.int .i64)), (.own .imm), r⟩] [] | _ => none }
noncomputable def slices_Grow_Sint64_int64.cfg (N : Nat) : Cfg := { ty := tys, keep := [], flt := [], elm := [(22, (.own .imm)), (23, (.own (.own .imm))), (24, (.pr (.own (.own .imm)) .imm)), (25, (.pr (.own (.own .imm)) .imm)), (26, (.own .imm)), (27, (.pr (.own .imm) .imm)), (28, (.pr (.own .imm) .imm)), (31, (.pr (.pr (.own .imm) .imm) .imm)), (32, (.pr (.pr (.own .imm) .imm) .imm)), (45, (.pr (.pr (.own .imm) .imm) (.pr (.own .imm) .imm))), (46, (.pr (.pr (.own .imm) .imm) (.pr (.own .imm) .imm))), (54, (.pr (.own .imm) .imm)), (55, (.pr (.own .imm) .imm))], live := [], ord := [], con := [], loops := [], joins := [] }
theorem slices_Grow_Sint64_int64.cons (N : Nat) : ConsOk Try.prog (slices_Grow_Sint64_int64.cfg N).con := consOk_nil
theorem slices_Grow_Sint64_int64.ls (N : Nat) : LoopsOk Try.prog (slices_Grow_Sint64_int64.cfg N) (fnBody Try.f46) := loopsL (l := []) (by kernel_rfl) trivial
theorem slices_Grow_Sint64_int64.b (N : Nat) (x0 : den (.sl 2 (.int .i64))) (x1 : den (.int .i64)) : body (slices_Grow_Sint64_int64.cfg N) N Try.f46 [.one, .one] [.nl, .v] [(false, (.own .imm))] [⟨(.sl 2 (.int .i64)), .imm, x0⟩, ⟨(.int .i64), .imm, x1⟩] (fun r i => some (r, i)) = bindO (slices_Grow_Sint64_int64 N x0 x1) fun r => some ([⟨(.sl 2 (.int .i64)), (.own .imm), r⟩], []) := by
  show _ = bindF _ _
  conv => rhs; simp only [slices_Grow_Sint64_int64, bindF_ifB, bindF_bindO, bindF_pure, bindF_none, bindF_onSum]
  kernel_rfl
theorem slices_Grow_Sint64_int64.ok (N : Nat) : ConOk Try.prog 46 [.one, .one] (slices_Grow_Sint64_int64.con N) := by
  refine conOk_mk (g := slices_Grow_Sint64_int64.cfg N) (N := N) (res := [(false, (.own .imm))]) tys_ok (slices_Grow_Sint64_int64.cons N) mixed Try.func46 (slices_Grow_Sint64_int64.ls N) rfl rfl ?_
  intro ds R k y h
  cases ds with
  | nil => exact none_some h
  | cons d0 ds =>
  cases ds with
  | nil => exact none_some h
  | cons d1 ds =>
  cases ds with
  | cons _ _ => exact none_some h
  | nil =>
  have h0 : (castDm (.sl 2 (.int .i64)) .imm d0 fun x0 => castDm (.int .i64) .imm d1 fun x1 => bindO (slices_Grow_Sint64_int64 N x0 x1) fun r => k [⟨(.sl 2 (.int .i64)), (.own .imm), r⟩] []) = some y := h
  clear h
  obtain ⟨x0, rfl, h1⟩ := castDm_eq h0
  obtain ⟨x1, rfl, h2⟩ := castDm_eq h1
  exact con_fin (slices_Grow_Sint64_int64.b N x0 x1) h2
theorem slices_Grow_Sint64_int64.det (N : Nat) : ConDet (slices_Grow_Sint64_int64.con N) := by
  intro ds R k y h
  cases ds with
  | nil => exact none_some h
  | cons d0 ds =>
  cases ds with
  | nil => exact none_some h
  | cons d1 ds =>
  cases ds with
  | cons _ _ => exact none_some h
  | nil =>
  have h0 : (castDm (.sl 2 (.int .i64)) .imm d0 fun x0 => castDm (.int .i64) .imm d1 fun x1 => bindO (slices_Grow_Sint64_int64 N x0 x1) fun r => k [⟨(.sl 2 (.int .i64)), (.own .imm), r⟩] []) = some y := h
  clear h
  obtain ⟨x0, rfl, h1⟩ := castDm_eq h0
  obtain ⟨x1, rfl, h2⟩ := castDm_eq h1
  obtain ⟨r, e, h⟩ := bindO_some h2
  refine ⟨_, _, h, fun k' => ?_⟩
  show (castDm (.sl 2 (.int .i64)) .imm (⟨(.sl 2 (.int .i64)), .imm, x0⟩ : Dy) fun x0 => castDm (.int .i64) .imm (⟨(.int .i64), .imm, x1⟩ : Dy) fun x1 => bindO (slices_Grow_Sint64_int64 N x0 x1) fun r => k' [⟨(.sl 2 (.int .i64)), (.own .imm), r⟩] []) = _
  simp only [castDm_self]
  rw [e]
  rfl
def slices_Concat_Sint64_int64.sk3 : Skel := ⟨[.pv (.sl 26 (.sl 2 (.int .i64))), .dead, .dead, .pv (.int .i64), .dead, .dead, .dead, .dead, .dead, .pv (.sl 26 (.sl 2 (.int .i64))), .pv (.int .i64), .pv (.int .i64), .dead, .dead, .dead, .dead, .dead, .dead, .dead, .dead, .dead, .dead, .dead, .dead, .dead, .dead, .dead, .dead, .dead, .dead, .dead, .dead, .dead, .dead, .dead, .dead], []⟩
def slices_Concat_Sint64_int64.xs3 : List XS := [⟨.exit 0, [0, 3], ⟨[.pv (.sl 26 (.sl 2 (.int .i64))), .dead, .dead, .pv (.int .i64), .dead, .dead, .dead, .dead, .dead, .dead, .dead, .dead, .dead, .dead, .dead, .dead, .dead, .dead, .dead, .dead, .dead, .dead, .dead, .dead, .dead, .dead, .dead, .dead, .dead, .dead, .dead, .dead, .dead, .dead, .dead, .dead], []⟩⟩]
def slices_Concat_Sint64_int64.sk11 : Skel := ⟨[.dead, .dead, .dead, .dead, .dead, .dead, .ov 50 [], .dead, .dead, .dead, .dead, .dead, .dead, .dead, .dead, .dead, .dead, .dead, .dead, .dead, .dead, .dead, .dead, .dead, .dead, .pv (.sl 26 (.sl 2 (.int .i64))), .pv (.int .i64), .pv (.int .i64), .dead, .dead, .dead, .dead, .dead, .dead, .dead, .dead], [⟨50, (.sl 2 (.int .i64)), (.own .imm), false, false⟩]⟩
def slices_Concat_Sint64_int64.xs11 : List XS := [⟨.exit 2, [6], ⟨[.dead, .dead, .dead, .dead, .dead, .dead, .ov 50 [], .dead, .dead, .dead, .dead, .dead, .dead, .dead, .dead, .dead, .dead, .dead, .dead, .dead, .dead, .dead, .dead, .dead, .dead, .dead, .dead, .dead, .dead, .dead, .dead, .dead, .dead, .dead, .dead, .dead], [⟨50, (.sl 2 (.int .i64)), (.own .imm), false, false⟩]⟩⟩]
noncomputable def slices_Concat_Sint64_int64.con (N : Nat) : Con := { modes := [.v], ptrs := [false], fn := fun ds k => match ds with | [d0] => castDm (.sl 26 (.sl 2 (.int .i64))) .imm d0 fun x0 => bindO (slices_Concat_Sint64_int64 N x0) fun r => k [⟨(.sl 2 (.int .i64)), (.own .imm), r⟩] [] | _ => none }
noncomputable def slices_Concat_Sint64_int64.cfg (N : Nat) : Cfg := { ty := tys, keep := [24], flt := [], elm := [(22, (.own .imm)), (23, (.own (.own .imm))), (24, (.pr (.own (.own .imm)) .imm)), (25, (.pr (.own (.own .imm)) .imm)), (26, (.own .imm)), (27, (.pr (.own .imm) .imm)), (28, (.pr (.own .imm) .imm)), (31, (.pr (.pr (.own .imm) .imm) .imm)), (32, (.pr (.pr (.own .imm) .imm) .imm)), (45, (.pr (.pr (.own .imm) .imm) (.pr (.own .imm) .imm))), (46, (.pr (.pr (.own .imm) .imm) (.pr (.own .imm) .imm))), (54, (.pr (.own .imm) .imm)), (55, (.pr (.own .imm) .imm))], live := [(11, [6, 25, 26, 27]), (3, [0, 3, 9, 10, 11])], ord := [], con := [((46, [.one, .one]), slices_Grow_Sint64_int64.con N)], loops := [(3, loopCon N slices_Concat_Sint64_int64.sk3 slices_Concat_Sint64_int64.xs3 (fun {R} => slices_Concat_Sint64_int64.l3 (R := R) N)), (11, loopCon N slices_Concat_Sint64_int64.sk11 slices_Concat_Sint64_int64.xs11 (fun {R} => slices_Concat_Sint64_int64.l11 (R := R) N))], joins := [] }
theorem slices_Concat_Sint64_int64.cons (N : Nat) : ConsOk Try.prog (slices_Concat_Sint64_int64.cfg N).con := (consOk_cons (hb46) (slices_Grow_Sint64_int64.ok N) (slices_Grow_Sint64_int64.det N) consOk_nil)
theorem slices_Concat_Sint64_int64.h11 {R : Type} (N : Nat) (d : slices_Concat_Sint64_int64.sk11.D) (kn : slices_Concat_Sint64_int64.sk11.D → Option R) (kx : XD slices_Concat_Sint64_int64.xs11 → Option R) : roundK (slices_Concat_Sint64_int64.cfg N) N (nthLoop (fnBody Try.f36) 1) slices_Concat_Sint64_int64.sk11 slices_Concat_Sint64_int64.xs11 d kn kx = slices_Concat_Sint64_int64.l11 N d kn kx := by kernel_rfl
theorem slices_Concat_Sint64_int64.i11 (N : Nat) : LoopsOk Try.prog (slices_Concat_Sint64_int64.cfg N) (nthLoop (fnBody Try.f36) 1) := loopsL (l := []) (by kernel_rfl) trivial
theorem slices_Concat_Sint64_int64.o11 (N : Nat) : LoopOk Try.prog (nthLoop (fnBody Try.f36) 1) (loopCon N slices_Concat_Sint64_int64.sk11 slices_Concat_Sint64_int64.xs11 (fun {R} => slices_Concat_Sint64_int64.l11 (R := R) N)) := loop_ok (g := slices_Concat_Sint64_int64.cfg N) tys_ok (slices_Concat_Sint64_int64.cons N) mixed (slices_Concat_Sint64_int64.i11 N) (fun d kn kx => slices_Concat_Sint64_int64.h11 N d kn kx)
theorem slices_Concat_Sint64_int64.h3 {R : Type} (N : Nat) (d : slices_Concat_Sint64_int64.sk3.D) (kn : slices_Concat_Sint64_int64.sk3.D → Option R) (kx : XD slices_Concat_Sint64_int64.xs3 → Option R) : roundK (slices_Concat_Sint64_int64.cfg N) N (nthLoop (fnBody Try.f36) 0) slices_Concat_Sint64_int64.sk3 slices_Concat_Sint64_int64.xs3 d kn kx = slices_Concat_Sint64_int64.l3 N d kn kx := by kernel_rfl
theorem slices_Concat_Sint64_int64.i3 (N : Nat) : LoopsOk Try.prog (slices_Concat_Sint64_int64.cfg N) (nthLoop (fnBody Try.f36) 0) := loopsL (l := []) (by kernel_rfl) trivial
theorem slices_Concat_Sint64_int64.o3 (N : Nat) : LoopOk Try.prog (nthLoop (fnBody Try.f36) 0) (loopCon N slices_Concat_Sint64_int64.sk3 slices_Concat_Sint64_int64.xs3 (fun {R} => slices_Concat_Sint64_int64.l3 (R := R) N)) := loop_ok (g := slices_Concat_Sint64_int64.cfg N) tys_ok (slices_Concat_Sint64_int64.cons N) mixed (slices_Concat_Sint64_int64.i3 N) (fun d kn kx => slices_Concat_Sint64_int64.h3 N d kn kx)
theorem slices_Concat_Sint64_int64.ls (N : Nat) : LoopsOk Try.prog (slices_Concat_Sint64_int64.cfg N) (fnBody Try.f36) := loopsL (l := [nthLoop (fnBody Try.f36) 0, nthLoop (fnBody Try.f36) 1]) (by kernel_rfl) ⟨loopOne (L0 := loopCon N slices_Concat_Sint64_int64.sk3 slices_Concat_Sint64_int64.xs3 (fun {R} => slices_Concat_Sint64_int64.l3 (R := R) N)) (id := 3) (by kernel_rfl) (by kernel_rfl) (slices_Concat_Sint64_int64.o3 N), ⟨loopOne (L0 := loopCon N slices_Concat_Sint64_int64.sk11 slices_Concat_Sint64_int64.xs11 (fun {R} => slices_Concat_Sint64_int64.l11 (R := R) N)) (id := 11) (by kernel_rfl) (by kernel_rfl) (slices_Concat_Sint64_int64.o11 N), trivial⟩⟩
theorem slices_Concat_Sint64_int64.q11 {R R' : Type} {N n : Nat} {d} {k} {g : R → Option R'} : bindF (loopP (slices_Concat_Sint64_int64.l11 N) n d k) g = loopP (slices_Concat_Sint64_int64.l11 N) n d fun e => bindF (k e) g := bindF_loopP (fun d kn kx => by simp only [slices_Concat_Sint64_int64.l11, bindF_ifB, bindF_bindO, bindF_pure, bindF_none, bindF_onSum]) n d k
theorem slices_Concat_Sint64_int64.q3 {R R' : Type} {N n : Nat} {d} {k} {g : R → Option R'} : bindF (loopP (slices_Concat_Sint64_int64.l3 N) n d k) g = loopP (slices_Concat_Sint64_int64.l3 N) n d fun e => bindF (k e) g := bindF_loopP (fun d kn kx => by simp only [slices_Concat_Sint64_int64.l3, bindF_ifB, bindF_bindO, bindF_pure, bindF_none, bindF_onSum]) n d k
theorem slices_Concat_Sint64_int64.b (N : Nat) (x0 : den (.sl 26 (.sl 2 (.int .i64)))) : body (slices_Concat_Sint64_int64.cfg N) N Try.f36 [.one] [.v] [(false, (.own .imm))] [⟨(.sl 26 (.sl 2 (.int .i64))), .imm, x0⟩] (fun r i => some (r, i)) = bindO (slices_Concat_Sint64_int64 N x0) fun r => some ([⟨(.sl 2 (.int .i64)), (.own .imm), r⟩], []) := by
  show _ = bindF _ _
  conv => rhs; simp only [slices_Concat_Sint64_int64, bindF_ifB, bindF_bindO, bindF_pure, bindF_none, bindF_onSum, slices_Concat_Sint64_int64.q3, slices_Concat_Sint64_int64.q11]
  kernel_rfl
theorem slices_Concat_Sint64_int64.ok (N : Nat) : ConOk Try.prog 36 [.one] (slices_Concat_Sint64_int64.con N) := by
  refine conOk_mk (g := slices_Concat_Sint64_int64.cfg N) (N := N) (res := [(false, (.own .imm))]) tys_ok (slices_Concat_Sint64_int64.cons N) mixed Try.func36 (slices_Concat_Sint64_int64.ls N) rfl rfl ?_
  intro ds R k y h
  cases ds with
  | nil => exact none_some h
  | cons d0 ds =>
  cases ds with
  | cons _ _ => exact none_some h
  | nil =>
  have h0 : (castDm (.sl 26 (.sl 2 (.int .i64))) .imm d0 fun x0 => bindO (slices_Concat_Sint64_int64 N x0) fun r => k [⟨(.sl 2 (.int .i64)), (.own .imm), r⟩] []) = some y := h
  clear h
  obtain ⟨x0, rfl, h1⟩ := castDm_eq h0
  exact con_fin (slices_Concat_Sint64_int64.b N x0) h1
theorem slices_Concat_Sint64_int64.det (N : Nat) : ConDet (slices_Concat_Sint64_int64.con N) := by
  intro ds R k y h
  cases ds with
  | nil => exact none_some h
  | cons d0 ds =>
  cases ds with
  | cons _ _ => exact none_some h
  | nil =>
  have h0 : (castDm (.sl 26 (.sl 2 (.int .i64))) .imm d0 fun x0 => bindO (slices_Concat_Sint64_int64 N x0) fun r => k [⟨(.sl 2 (.int .i64)), (.own .imm), r⟩] []) = some y := h
  clear h
  obtain ⟨x0, rfl, h1⟩ := castDm_eq h0
  obtain ⟨r, e, h⟩ := bindO_some h1
  refine ⟨_, _, h, fun k' => ?_⟩
  show (castDm (.sl 26 (.sl 2 (.int .i64))) .imm (⟨(.sl 26 (.sl 2 (.int .i64))), .imm, x0⟩ : Dy) fun x0 => bindO (slices_Concat_Sint64_int64 N x0) fun r => k' [⟨(.sl 2 (.int .i64)), (.own .imm), r⟩] []) = _
  simp only [castDm_self]
  rw [e]
  rfl
noncomputable def impl_replace_c1.con (N : Nat) : Con := { modes := [.v, .rd, .rd, .rd], ptrs := [false], fn := fun ds k => match ds with | [d0, d1, d2, d3] => castDm (.int .i64) .imm d0 fun x0 => castDm (.int .i64) .imm d1 fun x1 => castDm (.int .i64) .imm d2 fun x2 => castDm (.int .i64) .imm d3 fun x3 => bindO (impl_replace_c1 N x0 x1 x2 x3) fun r => k [⟨(.int .i64), .imm, r⟩] [] | _ => none }
noncomputable def impl_replace_c1.cfg (N : Nat) : Cfg := { ty := tys, keep := [], flt := [], elm := [(22, (.own .imm)), (23, (.own (.own .imm))), (24, (.pr (.own (.own .imm)) .imm)), (25, (.pr (.own (.own .imm)) .imm)), (26, (.own .imm)), (27, (.pr (.own .imm) .imm)), (28, (.pr (.own .imm) .imm)), (31, (.pr (.pr (.own .imm) .imm) .imm)), (32, (.pr (.pr (.own .imm) .imm) .imm)), (45, (.pr (.pr (.own .imm) .imm) (.pr (.own .imm) .imm))), (46, (.pr (.pr (.own .imm) .imm) (.pr (.own .imm) .imm))), (54, (.pr (.own .imm) .imm)), (55, (.pr (.own .imm) .imm))], live := [], ord := [], con := [], loops := [], joins := [] }
theorem impl_replace_c1.cons (N : Nat) : ConsOk Try.prog (impl_replace_c1.cfg N).con := consOk_nil
theorem impl_replace_c1.ls (N : Nat) : LoopsOk Try.prog (impl_replace_c1.cfg N) (fnBody Try.f35) := loopsL (l := []) (by kernel_rfl) trivial
theorem impl_replace_c1.b (N : Nat) (x0 : den (.int .i64)) (x1 : den (.int .i64)) (x2 : den (.int .i64)) (x3 : den (.int .i64)) : body (impl_replace_c1.cfg N) N Try.f35 [.one] [.v, .rd, .rd, .rd] [(false, .imm)] [⟨(.int .i64), .imm, x0⟩, ⟨(.int .i64), .imm, x1⟩, ⟨(.int .i64), .imm, x2⟩, ⟨(.int .i64), .imm, x3⟩] (fun r i => some (r, i)) = bindO (impl_replace_c1 N x0 x1 x2 x3) fun r => some ([⟨(.int .i64), .imm, r⟩], []) := by
  show _ = bindF _ _
  conv => rhs; simp only [impl_replace_c1, bindF_ifB, bindF_bindO, bindF_pure, bindF_none, bindF_onSum]
  kernel_rfl
theorem impl_replace_c1.ok (N : Nat) : ConOk Try.prog 35 [.one] (impl_replace_c1.con N) := by
  refine conOk_mk (g := impl_replace_c1.cfg N) (N := N) (res := [(false, .imm)]) tys_ok (impl_replace_c1.cons N) mixed Try.func35 (impl_replace_c1.ls N) rfl rfl ?_
  intro ds R k y h
  cases ds with
  | nil => exact none_some h
  | cons d0 ds =>
  cases ds with
  | nil => exact none_some h
  | cons d1 ds =>
  cases ds with
  | nil => exact none_some h
  | cons d2 ds =>
  cases ds with
  | nil => exact none_some h
  | cons d3 ds =>
  cases ds with
  | cons _ _ => exact none_some h
  | nil =>
  have h0 : (castDm (.int .i64) .imm d0 fun x0 => castDm (.int .i64) .imm d1 fun x1 => castDm (.int .i64) .imm d2 fun x2 => castDm (.int .i64) .imm d3 fun x3 => bindO (impl_replace_c1 N x0 x1 x2 x3) fun r => k [⟨(.int .i64), .imm, r⟩] []) = some y := h
  clear h
  obtain ⟨x0, rfl, h1⟩ := castDm_eq h0
  obtain ⟨x1, rfl, h2⟩ := castDm_eq h1
  obtain ⟨x2, rfl, h3⟩ := castDm_eq h2
  obtain ⟨x3, rfl, h4⟩ := castDm_eq h3
  exact con_fin (impl_replace_c1.b N x0 x1 x2 x3) h4
theorem impl_replace_c1.det (N : Nat) : ConDet (impl_replace_c1.con N) := by
  intro ds R k y h
  cases ds with
  | nil => exact none_some h
  | cons d0 ds =>
  cases ds with
  | nil => exact none_some h
  | cons d1 ds =>
  cases ds with
  | nil => exact none_some h
  | cons d2 ds =>
  cases ds with
  | nil => exact none_some h
  | cons d3 ds =>
  cases ds with
  | cons _ _ => exact none_some h
  | nil =>
  have h0 : (castDm (.int .i64) .imm d0 fun x0 => castDm (.int .i64) .imm d1 fun x1 => castDm (.int .i64) .imm d2 fun x2 => castDm (.int .i64) .imm d3 fun x3 => bindO (impl_replace_c1 N x0 x1 x2 x3) fun r => k [⟨(.int .i64), .imm, r⟩] []) = some y := h
  clear h
  obtain ⟨x0, rfl, h1⟩ := castDm_eq h0
  obtain ⟨x1, rfl, h2⟩ := castDm_eq h1
  obtain ⟨x2, rfl, h3⟩ := castDm_eq h2
  obtain ⟨x3, rfl, h4⟩ := castDm_eq h3
  obtain ⟨r, e, h⟩ := bindO_some h4
  refine ⟨_, _, h, fun k' => ?_⟩
  show (castDm (.int .i64) .imm (⟨(.int .i64), .imm, x0⟩ : Dy) fun x0 => castDm (.int .i64) .imm (⟨(.int .i64), .imm, x1⟩ : Dy) fun x1 => castDm (.int .i64) .imm (⟨(.int .i64), .imm, x2⟩ : Dy) fun x2 => castDm (.int .i64) .imm (⟨(.int .i64), .imm, x3⟩ : Dy) fun x3 => bindO (impl_replace_c1 N x0 x1 x2 x3) fun r => k' [⟨(.int .i64), .imm, r⟩] []) = _
  simp only [castDm_self]
  rw [e]
  rfl
noncomputable def slices_Clone_Sint64_int64.con (N : Nat) : Con := { modes := [.v], ptrs := [false], fn := fun ds k => match ds with | [d0] => castDm (.sl 2 (.int .i64)) .imm d0 fun x0 => bindO (slices_Clone_Sint64_int64 N x0) fun r => k [⟨(.sl 2 (.int .i64)), (.own .imm), r⟩] [] | _ => none }
noncomputable def slices_Clone_Sint64_int64.cfg (N : Nat) : Cfg := { ty := tys, keep := [], flt := [], elm := [(22, (.own .imm)), (23, (.own (.own .imm))), (24, (.pr (.own (.own .imm)) .imm)), (25, (.pr (.own (.own .imm)) .imm)), (26, (.own .imm)), (27, (.pr (.own .imm) .imm)), (28, (.pr (.own .imm) .imm)), (31, (.pr (.pr (.own .imm) .imm) .imm)), (32, (.pr (.pr (.own .imm) .imm) .imm)), (45, (.pr (.pr (.own .imm) .imm) (.pr (.own .imm) .imm))), (46, (.pr (.pr (.own .imm) .imm) (.pr (.own .imm) .imm))), (54, (.pr (.own .imm) .imm)), (55, (.pr (.own .imm) .imm))], live := [], ord := [], con := [], loops := [], joins := [] }
theorem slices_Clone_Sint64_int64.cons (N : Nat) : ConsOk Try.prog (slices_Clone_Sint64_int64.cfg N).con := consOk_nil
theorem slices_Clone_Sint64_int64.ls (N : Nat) : LoopsOk Try.prog (slices_Clone_Sint64_int64.cfg N) (fnBody Try.f23) := loopsL (l := []) (by kernel_rfl) trivial
theorem slices_Clone_Sint64_int64.pu {R : Type} (N : Nat) (x0 : den (.sl 2 (.int .i64))) (f : _ → Option R) : Psh (slices_Clone_Sint64_int64 N x0) (slices_Clone_Sint64_int64.g N x0 f) f := by
  unfold slices_Clone_Sint64_int64 slices_Clone_Sint64_int64.g
  repeat' (first | exact psh_pure | exact psh_none | refine psh_ifB ?_ ?_ | refine psh_same ?_ ?_ | refine psh_bindO fun _ => ?_)
theorem slices_Clone_Sint64_int64.b (N : Nat) (x0 : den (.sl 2 (.int .i64))) : body (slices_Clone_Sint64_int64.cfg N) N Try.f23 [.one] [.v] [(false, (.own .imm))] [⟨(.sl 2 (.int .i64)), .imm, x0⟩] (fun r i => some (r, i)) = slices_Clone_Sint64_int64.g N x0 fun r => some ([⟨(.sl 2 (.int .i64)), (.own .imm), r⟩], []) := by kernel_rfl
theorem slices_Clone_Sint64_int64.ok (N : Nat) : ConOk Try.prog 23 [.one] (slices_Clone_Sint64_int64.con N) := by
  refine conOk_mk (g := slices_Clone_Sint64_int64.cfg N) (N := N) (res := [(false, (.own .imm))]) tys_ok (slices_Clone_Sint64_int64.cons N) mixed Try.func23 (slices_Clone_Sint64_int64.ls N) rfl rfl ?_
  intro ds R k y h
  cases ds with
  | nil => exact none_some h
  | cons d0 ds =>
  cases ds with
  | cons _ _ => exact none_some h
  | nil =>
  have h0 : (castDm (.sl 2 (.int .i64)) .imm d0 fun x0 => bindO (slices_Clone_Sint64_int64 N x0) fun r => k [⟨(.sl 2 (.int .i64)), (.own .imm), r⟩] []) = some y := h
  clear h
  obtain ⟨x0, rfl, h1⟩ := castDm_eq h0
  exact con_fin' (slices_Clone_Sint64_int64.b N x0) (slices_Clone_Sint64_int64.pu N x0 _) h1
theorem slices_Clone_Sint64_int64.det (N : Nat) : ConDet (slices_Clone_Sint64_int64.con N) := by
  intro ds R k y h
  cases ds with
  | nil => exact none_some h
  | cons d0 ds =>
  cases ds with
  | cons _ _ => exact none_some h
  | nil =>
  have h0 : (castDm (.sl 2 (.int .i64)) .imm d0 fun x0 => bindO (slices_Clone_Sint64_int64 N x0) fun r => k [⟨(.sl 2 (.int .i64)), (.own .imm), r⟩] []) = some y := h
  clear h
  obtain ⟨x0, rfl, h1⟩ := castDm_eq h0
  obtain ⟨r, e, h⟩ := bindO_some h1
  refine ⟨_, _, h, fun k' => ?_⟩
  show (castDm (.sl 2 (.int .i64)) .imm (⟨(.sl 2 (.int .i64)), .imm, x0⟩ : Dy) fun x0 => bindO (slices_Clone_Sint64_int64 N x0) fun r => k' [⟨(.sl 2 (.int .i64)), (.own .imm), r⟩] []) = _
  simp only [castDm_self]
  rw [e]
  rfl
noncomputable def impl_replace.con (N : Nat) : Con := { modes := [.v, .v, .v, .v], ptrs := [false], fn := fun ds k => match ds with | [d0, d1, d2, d3] => castDm (.pair (.sl 2 (.int .i64)) (.pair (.int .i64) (.pair (.int .i64) .unit))) .imm d0 fun x0 => castDm (.int .i64) .imm d1 fun x1 => castDm (.int .i64) .imm d2 fun x2 => castDm (.sl 2 (.int .i64)) .imm d3 fun x3 => bindO (impl_replace N x0 x1 x2 x3) fun r => k [⟨(.pair (.pair (.sl 2 (.int .i64)) (.pair (.int .i64) (.pair (.int .i64) .unit))) (.pair (.sl 2 (.int .i64)) (.pair (.int .i64) .unit))), (.pr (.pr (.own .imm) .imm) (.pr (.own .imm) .imm)), r⟩] [] | _ => none }
noncomputable def impl_replace.cfg (N : Nat) : Cfg := { ty := tys, keep := [23, 28, 35, 51, 55, 59, 72, 81], flt := [], elm := [(22, (.own .imm)), (23, (.own (.own .imm))), (24, (.pr (.own (.own .imm)) .imm)), (25, (.pr (.own (.own .imm)) .imm)), (26, (.own .imm)), (27, (.pr (.own .imm) .imm)), (28, (.pr (.own .imm) .imm)), (31, (.pr (.pr (.own .imm) .imm) .imm)), (32, (.pr (.pr (.own .imm) .imm) .imm)), (45, (.pr (.pr (.own .imm) .imm) (.pr (.own .imm) .imm))), (46, (.pr (.pr (.own .imm) .imm) (.pr (.own .imm) .imm))), (54, (.pr (.own .imm) .imm)), (55, (.pr (.own .imm) .imm))], live := [], ord := [(1, [0, 1, 2, 3, 4, 5, 6, 7, 8, 9, 10, 11, 12, 13]), (3, [6, 0, 2, 3, 4, 1, 5, 7]), (4, [0, 1, 3, 2, 4, 5]), (7, [20, 0, 1, 2, 3, 4, 5, 6, 7, 8, 11, 12, 13, 15, 16, 17, 9, 10, 14, 18, 19, 21]), (9, [0, 1, 2, 3, 4, 5]), (10, [0, 1, 2, 3, 4, 5, 6, 7, 8])], con := [((21, [.one]), impl_size_Sint64.con N), ((36, [.one]), slices_Concat_Sint64_int64.con N), ((35, [.one]), impl_replace_c1.con N), ((23, [.one]), slices_Clone_Sint64_int64.con N)], loops := [], joins := [] }
theorem impl_replace.cons (N : Nat) : ConsOk Try.prog (impl_replace.cfg N).con := (consOk_cons (hb21) (impl_size_Sint64.ok N) (impl_size_Sint64.det N) (consOk_cons (hb36) (slices_Concat_Sint64_int64.ok N) (slices_Concat_Sint64_int64.det N) (consOk_cons (hb35) (impl_replace_c1.ok N) (impl_replace_c1.det N) (consOk_cons (hb23) (slices_Clone_Sint64_int64.ok N) (slices_Clone_Sint64_int64.det N) consOk_nil))))
theorem impl_replace.ls (N : Nat) : LoopsOk Try.prog (impl_replace.cfg N) (fnBody Try.f20) := loopsL (l := []) (by kernel_rfl) trivial
theorem impl_replace.b (N : Nat) (x0 : den (.pair (.sl 2 (.int .i64)) (.pair (.int .i64) (.pair (.int .i64) .unit)))) (x1 : den (.int .i64)) (x2 : den (.int .i64)) (x3 : den (.sl 2 (.int .i64))) : body (impl_replace.cfg N) N Try.f20 [.one, .one, .one, .one] [.v, .v, .v, .v] [(false, (.pr (.pr (.own .imm) .imm) (.pr (.own .imm) .imm)))] [⟨(.pair (.sl 2 (.int .i64)) (.pair (.int .i64) (.pair (.int .i64) .unit))), .imm, x0⟩, ⟨(.int .i64), .imm, x1⟩, ⟨(.int .i64), .imm, x2⟩, ⟨(.sl 2 (.int .i64)), .imm, x3⟩] (fun r i => some (r, i)) = bindO (impl_replace N x0 x1 x2 x3) fun r => some ([⟨(.pair (.pair (.sl 2 (.int .i64)) (.pair (.int .i64) (.pair (.int .i64) .unit))) (.pair (.sl 2 (.int .i64)) (.pair (.int .i64) .unit))), (.pr (.pr (.own .imm) .imm) (.pr (.own .imm) .imm)), r⟩], []) := by
  show _ = bindF _ _
  conv => rhs; simp only [impl_replace, bindF_ifB, bindF_bindO, bindF_pure, bindF_none, bindF_onSum]
  kernel_rfl
theorem impl_replace.ok (N : Nat) : ConOk Try.prog 20 [.one, .one, .one, .one] (impl_replace.con N) := by
  refine conOk_mk (g := impl_replace.cfg N) (N := N) (res := [(false, (.pr (.pr (.own .imm) .imm) (.pr (.own .imm) .imm)))]) tys_ok (impl_replace.cons N) mixed Try.func20 (impl_replace.ls N) rfl rfl ?_
  intro ds R k y h
  cases ds with
  | nil => exact none_some h
  | cons d0 ds =>
  cases ds with
  | nil => exact none_some h
  | cons d1 ds =>
  cases ds with
  | nil => exact none_some h
  | cons d2 ds =>
  cases ds with
  | nil => exact none_some h
  | cons d3 ds =>
  cases ds with
  | cons _ _ => exact none_some h
  | nil =>
  have h0 : (castDm (.pair (.sl 2 (.int .i64)) (.pair (.int .i64) (.pair (.int .i64) .unit))) .imm d0 fun x0 => castDm (.int .i64) .imm d1 fun x1 => castDm (.int .i64) .imm d2 fun x2 => castDm (.sl 2 (.int .i64)) .imm d3 fun x3 => bindO (impl_replace N x0 x1 x2 x3) fun r => k [⟨(.pair (.pair (.sl 2 (.int .i64)) (.pair (.int .i64) (.pair (.int .i64) .unit))) (.pair (.sl 2 (.int .i64)) (.pair (.int .i64) .unit))), (.pr (.pr (.own .imm) .imm) (.pr (.own .imm) .imm)), r⟩] []) = some y := h
  clear h
  obtain ⟨x0, rfl, h1⟩ := castDm_eq h0
  obtain ⟨x1, rfl, h2⟩ := castDm_eq h1
  obtain ⟨x2, rfl, h3⟩ := castDm_eq h2
  obtain ⟨x3, rfl, h4⟩ := castDm_eq h3
  exact con_fin (impl_replace.b N x0 x1 x2 x3) h4
theorem impl_replace.det (N : Nat) : ConDet (impl_replace.con N) := by
  intro ds R k y h
  cases ds with
  | nil => exact none_some h
  | cons d0 ds =>
  cases ds with
  | nil => exact none_some h
  | cons d1 ds =>
  cases ds with
  | nil => exact none_some h
  | cons d2 ds =>
  cases ds with
  | nil => exact none_some h
  | cons d3 ds =>
  cases ds with
  | cons _ _ => exact none_some h
  | nil =>
  have h0 : (castDm (.pair (.sl 2 (.int .i64)) (.pair (.int .i64) (.pair (.int .i64) .unit))) .imm d0 fun x0 => castDm (.int .i64) .imm d1 fun x1 => castDm (.int .i64) .imm d2 fun x2 => castDm (.sl 2 (.int .i64)) .imm d3 fun x3 => bindO (impl_replace N x0 x1 x2 x3) fun r => k [⟨(.pair (.pair (.sl 2 (.int .i64)) (.pair (.int .i64) (.pair (.int .i64) .unit))) (.pair (.sl 2 (.int .i64)) (.pair (.int .i64) .unit))), (.pr (.pr (.own .imm) .imm) (.pr (.own .imm) .imm)), r⟩] []) = some y := h
  clear h
  obtain ⟨x0, rfl, h1⟩ := castDm_eq h0
  obtain ⟨x1, rfl, h2⟩ := castDm_eq h1
  obtain ⟨x2, rfl, h3⟩ := castDm_eq h2
  obtain ⟨x3, rfl, h4⟩ := castDm_eq h3
  obtain ⟨r, e, h⟩ := bindO_some h4
  refine ⟨_, _, h, fun k' => ?_⟩
  show (castDm (.pair (.sl 2 (.int .i64)) (.pair (.int .i64) (.pair (.int .i64) .unit))) .imm (⟨(.pair (.sl 2 (.int .i64)) (.pair (.int .i64) (.pair (.int .i64) .unit))), .imm, x0⟩ : Dy) fun x0 => castDm (.int .i64) .imm (⟨(.int .i64), .imm, x1⟩ : Dy) fun x1 => castDm (.int .i64) .imm (⟨(.int .i64), .imm, x2⟩ : Dy) fun x2 => castDm (.sl 2 (.int .i64)) .imm (⟨(.sl 2 (.int .i64)), .imm, x3⟩ : Dy) fun x3 => bindO (impl_replace N x0 x1 x2 x3) fun r => k' [⟨(.pair (.pair (.sl 2 (.int .i64)) (.pair (.int .i64) (.pair (.int .i64) .unit))) (.pair (.sl 2 (.int .i64)) (.pair (.int .i64) .unit))), (.pr (.pr (.own .imm) .imm) (.pr (.own .imm) .imm)), r⟩] []) = _
  simp only [castDm_self]
  rw [e]
  rfl
noncomputable def impl_RingYank.con (N : Nat) : Con := { modes := [.v, .v], ptrs := [false], fn := fun ds k => match ds with | [d0, d1] => castDm (.pair (.sl 26 (.sl 2 (.int .i64))) (.pair (.int .i64) .unit)) .imm d0 fun x0 => castDm (.pair (.sl 2 (.int .i64)) (.pair (.int .i64) (.pair (.int .i64) .unit))) .imm d1 fun x1 => bindO (impl_RingYank N x0 x1) fun r => k [⟨(.pair (.pair (.sl 2 (.int .i64)) (.pair (.int .i64) (.pair (.int .i64) .unit))) (.pair (.int .i64) (.pair (.int .i64) (.pair (.int .i64) .unit)))), (.pr (.pr (.own .imm) .imm) .imm), r⟩] [] | _ => none }
noncomputable def impl_RingYank.cfg (N : Nat) : Cfg := { ty := tys, keep := [10, 27, 41], flt := [], elm := [(22, (.own .imm)), (23, (.own (.own .imm))), (24, (.pr (.own (.own .imm)) .imm)), (25, (.pr (.own (.own .imm)) .imm)), (26, (.own .imm)), (27, (.pr (.own .imm) .imm)), (28, (.pr (.own .imm) .imm)), (31, (.pr (.pr (.own .imm) .imm) .imm)), (32, (.pr (.pr (.own .imm) .imm) .imm)), (45, (.pr (.pr (.own .imm) .imm) (.pr (.own .imm) .imm))), (46, (.pr (.pr (.own .imm) .imm) (.pr (.own .imm) .imm))), (54, (.pr (.own .imm) .imm)), (55, (.pr (.own .imm) .imm))], live := [], ord := [(8, [0, 1, 2, 3, 4, 5, 6, 7, 8, 9, 10])], con := [((19, [.one, .one]), impl_ringCode.con N), ((20, [.one, .one, .one, .one]), impl_replace.con N), ((21, [.one]), impl_size_Sint64.con N)], loops := [], joins := [] }
theorem impl_RingYank.cons (N : Nat) : ConsOk Try.prog (impl_RingYank.cfg N).con := (consOk_cons (hb19) (impl_ringCode.ok N) (impl_ringCode.det N) (consOk_cons (hb20) (impl_replace.ok N) (impl_replace.det N) (consOk_cons (hb21) (impl_size_Sint64.ok N) (impl_size_Sint64.det N) consOk_nil)))
theorem impl_RingYank.ls (N : Nat) : LoopsOk Try.prog (impl_RingYank.cfg N) (fnBody Try.f6) := loopsL (l := []) (by kernel_rfl) trivial
theorem impl_RingYank.b (N : Nat) (x0 : den (.pair (.sl 26 (.sl 2 (.int .i64))) (.pair (.int .i64) .unit))) (x1 : den (.pair (.sl 2 (.int .i64)) (.pair (.int .i64) (.pair (.int .i64) .unit)))) : body (impl_RingYank.cfg N) N Try.f6 [.one, .one] [.v, .v] [(false, (.pr (.pr (.own .imm) .imm) .imm))] [⟨(.pair (.sl 26 (.sl 2 (.int .i64))) (.pair (.int .i64) .unit)), .imm, x0⟩, ⟨(.pair (.sl 2 (.int .i64)) (.pair (.int .i64) (.pair (.int .i64) .unit))), .imm, x1⟩] (fun r i => some (r, i)) = bindO (impl_RingYank N x0 x1) fun r => some ([⟨(.pair (.pair (.sl 2 (.int .i64)) (.pair (.int .i64) (.pair (.int .i64) .unit))) (.pair (.int .i64) (.pair (.int .i64) (.pair (.int .i64) .unit)))), (.pr (.pr (.own .imm) .imm) .imm), r⟩], []) := by
  show _ = bindF _ _
  conv => rhs; simp only [impl_RingYank, bindF_ifB, bindF_bindO, bindF_pure, bindF_none, bindF_onSum]
  kernel_rfl
theorem impl_RingYank.ok (N : Nat) : ConOk Try.prog 6 [.one, .one] (impl_RingYank.con N) := by
  refine conOk_mk (g := impl_RingYank.cfg N) (N := N) (res := [(false, (.pr (.pr (.own .imm) .imm) .imm))]) tys_ok (impl_RingYank.cons N) mixed Try.func6 (impl_RingYank.ls N) rfl rfl ?_
  intro ds R k y h
  cases ds with
  | nil => exact none_some h
  | cons d0 ds =>
  cases ds with
  | nil => exact none_some h
  | cons d1 ds =>
  cases ds with
  | cons _ _ => exact none_some h
  | nil =>
  have h0 : (castDm (.pair (.sl 26 (.sl 2 (.int .i64))) (.pair (.int .i64) .unit)) .imm d0 fun x0 => castDm (.pair (.sl 2 (.int .i64)) (.pair (.int .i64) (.pair (.int .i64) .unit))) .imm d1 fun x1 => bindO (impl_RingYank N x0 x1) fun r => k [⟨(.pair (.pair (.sl 2 (.int .i64)) (.pair (.int .i64) (.pair (.int .i64) .unit))) (.pair (.int .i64) (.pair (.int .i64) (.pair (.int .i64) .unit)))), (.pr (.pr (.own .imm) .imm) .imm), r⟩] []) = some y := h
  clear h
  obtain ⟨x0, rfl, h1⟩ := castDm_eq h0
  obtain ⟨x1, rfl, h2⟩ := castDm_eq h1
  exact con_fin (impl_RingYank.b N x0 x1) h2
theorem impl_RingYank.det (N : Nat) : ConDet (impl_RingYank.con N) := by
  intro ds R k y h
  cases ds with
  | nil => exact none_some h
  | cons d0 ds =>
  cases ds with
  | nil => exact none_some h
  | cons d1 ds =>
  cases ds with
  | cons _ _ => exact none_some h
  | nil =>
  have h0 : (castDm (.pair (.sl 26 (.sl 2 (.int .i64))) (.pair (.int .i64) .unit)) .imm d0 fun x0 => castDm (.pair (.sl 2 (.int .i64)) (.pair (.int .i64) (.pair (.int .i64) .unit))) .imm d1 fun x1 => bindO (impl_RingYank N x0 x1) fun r => k [⟨(.pair (.pair (.sl 2 (.int .i64)) (.pair (.int .i64) (.pair (.int .i64) .unit))) (.pair (.int .i64) (.pair (.int .i64) (.pair (.int .i64) .unit)))), (.pr (.pr (.own .imm) .imm) .imm), r⟩] []) = some y := h
  clear h
  obtain ⟨x0, rfl, h1⟩ := castDm_eq h0
  obtain ⟨x1, rfl, h2⟩ := castDm_eq h1
  obtain ⟨r, e, h⟩ := bindO_some h2
  refine ⟨_, _, h, fun k' => ?_⟩
  show (castDm (.pair (.sl 26 (.sl 2 (.int .i64))) (.pair (.int .i64) .unit)) .imm (⟨(.pair (.sl 26 (.sl 2 (.int .i64))) (.pair (.int .i64) .unit)), .imm, x0⟩ : Dy) fun x0 => castDm (.pair (.sl 2 (.int .i64)) (.pair (.int .i64) (.pair (.int .i64) .unit))) .imm (⟨(.pair (.sl 2 (.int .i64)) (.pair (.int .i64) (.pair (.int .i64) .unit))), .imm, x1⟩ : Dy) fun x1 => bindO (impl_RingYank N x0 x1) fun r => k' [⟨(.pair (.pair (.sl 2 (.int .i64)) (.pair (.int .i64) (.pair (.int .i64) .unit))) (.pair (.int .i64) (.pair (.int .i64) (.pair (.int .i64) .unit)))), (.pr (.pr (.own .imm) .imm) .imm), r⟩] []) = _
  simp only [castDm_self]
  rw [e]
  rfl
noncomputable def impl_RingTop.con (N : Nat) : Con := { modes := [.v], ptrs := [false], fn := fun ds k => match ds with | [d0] => castDm (.pair (.sl 26 (.sl 2 (.int .i64))) (.pair (.int .i64) .unit)) .imm d0 fun x0 => bindO (impl_RingTop N x0) fun r => k [⟨(.sl 2 (.int .i64)), (.own .imm), r⟩] [] | _ => none }
noncomputable def impl_RingTop.cfg (N : Nat) : Cfg := { ty := tys, keep := [4, 18], flt := [], elm := [(22, (.own .imm)), (23, (.own (.own .imm))), (24, (.pr (.own (.own .imm)) .imm)), (25, (.pr (.own (.own .imm)) .imm)), (26, (.own .imm)), (27, (.pr (.own .imm) .imm)), (28, (.pr (.own .imm) .imm)), (31, (.pr (.pr (.own .imm) .imm) .imm)), (32, (.pr (.pr (.own .imm) .imm) .imm)), (45, (.pr (.pr (.own .imm) .imm) (.pr (.own .imm) .imm))), (46, (.pr (.pr (.own .imm) .imm) (.pr (.own .imm) .imm))), (54, (.pr (.own .imm) .imm)), (55, (.pr (.own .imm) .imm))], live := [], ord := [], con := [((22, [.one]), impl_RingRight.con N), ((23, [.one]), slices_Clone_Sint64_int64.con N)], loops := [], joins := [] }
theorem impl_RingTop.cons (N : Nat) : ConsOk Try.prog (impl_RingTop.cfg N).con := (consOk_cons (hb22) (impl_RingRight.ok N) (impl_RingRight.det N) (consOk_cons (hb23) (slices_Clone_Sint64_int64.ok N) (slices_Clone_Sint64_int64.det N) consOk_nil))
theorem impl_RingTop.ls (N : Nat) : LoopsOk Try.prog (impl_RingTop.cfg N) (fnBody Try.f8) := loopsL (l := []) (by kernel_rfl) trivial
theorem impl_RingTop.b (N : Nat) (x0 : den (.pair (.sl 26 (.sl 2 (.int .i64))) (.pair (.int .i64) .unit))) : body (impl_RingTop.cfg N) N Try.f8 [.one] [.v] [(false, (.own .imm))] [⟨(.pair (.sl 26 (.sl 2 (.int .i64))) (.pair (.int .i64) .unit)), .imm, x0⟩] (fun r i => some (r, i)) = bindO (impl_RingTop N x0) fun r => some ([⟨(.sl 2 (.int .i64)), (.own .imm), r⟩], []) := by
  show _ = bindF _ _
  conv => rhs; simp only [impl_RingTop, bindF_ifB, bindF_bindO, bindF_pure, bindF_none, bindF_onSum]
  kernel_rfl
theorem impl_RingTop.ok (N : Nat) : ConOk Try.prog 8 [.one] (impl_RingTop.con N) := by
  refine conOk_mk (g := impl_RingTop.cfg N) (N := N) (res := [(false, (.own .imm))]) tys_ok (impl_RingTop.cons N) mixed Try.func8 (impl_RingTop.ls N) rfl rfl ?_
  intro ds R k y h
  cases ds with
  | nil => exact none_some h
  | cons d0 ds =>
  cases ds with
  | cons _ _ => exact none_some h
  | nil =>
  have h0 : (castDm (.pair (.sl 26 (.sl 2 (.int .i64))) (.pair (.int .i64) .unit)) .imm d0 fun x0 => bindO (impl_RingTop N x0) fun r => k [⟨(.sl 2 (.int .i64)), (.own .imm), r⟩] []) = some y := h
  clear h
  obtain ⟨x0, rfl, h1⟩ := castDm_eq h0
  exact con_fin (impl_RingTop.b N x0) h1
theorem impl_RingTop.det (N : Nat) : ConDet (impl_RingTop.con N) := by
  intro ds R k y h
  cases ds with
  | nil => exact none_some h
  | cons d0 ds =>
  cases ds with
  | cons _ _ => exact none_some h
  | nil =>
  have h0 : (castDm (.pair (.sl 26 (.sl 2 (.int .i64))) (.pair (.int .i64) .unit)) .imm d0 fun x0 => bindO (impl_RingTop N x0) fun r => k [⟨(.sl 2 (.int .i64)), (.own .imm), r⟩] []) = some y := h
  clear h
  obtain ⟨x0, rfl, h1⟩ := castDm_eq h0
  obtain ⟨r, e, h⟩ := bindO_some h1
  refine ⟨_, _, h, fun k' => ?_⟩
  show (castDm (.pair (.sl 26 (.sl 2 (.int .i64))) (.pair (.int .i64) .unit)) .imm (⟨(.pair (.sl 26 (.sl 2 (.int .i64))) (.pair (.int .i64) .unit)), .imm, x0⟩ : Dy) fun x0 => bindO (impl_RingTop N x0) fun r => k' [⟨(.sl 2 (.int .i64)), (.own .imm), r⟩] []) = _
  simp only [castDm_self]
  rw [e]
  rfl
def laws_lwSame.sk4 : Skel := ⟨[.pv (.sl 2 (.int .i64)), .pv (.sl 2 (.int .i64)), .dead, .dead, .dead, .pv (.int .i64), .dead, .dead, .dead, .dead, .dead, .dead, .dead, .dead, .dead, .dead, .dead, .dead, .dead, .dead, .dead, .dead, .dead, .dead, .dead, .dead], []⟩
def laws_lwSame.xs4 : List XS := [⟨.exit 0, [], ⟨[.dead, .dead, .dead, .dead, .dead, .dead, .dead, .dead, .dead, .dead, .dead, .dead, .dead, .dead, .dead, .dead, .dead, .dead, .dead, .dead, .dead, .dead, .dead, .dead, .dead, .dead], []⟩⟩, ⟨.ret, [4], ⟨[.dead, .dead, .dead, .dead, .pv .bool, .dead, .dead, .dead, .dead, .dead, .dead, .dead, .dead, .dead, .dead, .dead, .dead, .dead, .dead, .dead, .dead, .dead, .dead, .dead, .dead, .dead], []⟩⟩]
noncomputable def laws_lwSame.con (N : Nat) : Con := { modes := [.v, .v], ptrs := [false], fn := fun ds k => match ds with | [d0, d1] => castDm (.sl 2 (.int .i64)) .imm d0 fun x0 => castDm (.sl 2 (.int .i64)) .imm d1 fun x1 => bindO (laws_lwSame N x0 x1) fun r => k [⟨.bool, .imm, r⟩] [] | _ => none }
noncomputable def laws_lwSame.cfg (N : Nat) : Cfg := { ty := tys, keep := [], flt := [], elm := [(22, (.own .imm)), (23, (.own (.own .imm))), (24, (.pr (.own (.own .imm)) .imm)), (25, (.pr (.own (.own .imm)) .imm)), (26, (.own .imm)), (27, (.pr (.own .imm) .imm)), (28, (.pr (.own .imm) .imm)), (31, (.pr (.pr (.own .imm) .imm) .imm)), (32, (.pr (.pr (.own .imm) .imm) .imm)), (45, (.pr (.pr (.own .imm) .imm) (.pr (.own .imm) .imm))), (46, (.pr (.pr (.own .imm) .imm) (.pr (.own .imm) .imm))), (54, (.pr (.own .imm) .imm)), (55, (.pr (.own .imm) .imm))], live := [(4, [0, 1, 5])], ord := [(6, [0, 1, 2, 3, 4, 5, 6, 7, 8])], con := [], loops := [(4, loopCon N laws_lwSame.sk4 laws_lwSame.xs4 (fun {R} => laws_lwSame.l4 (R := R) N))], joins := [] }
theorem laws_lwSame.cons (N : Nat) : ConsOk Try.prog (laws_lwSame.cfg N).con := consOk_nil
theorem laws_lwSame.h4 {R : Type} (N : Nat) (d : laws_lwSame.sk4.D) (kn : laws_lwSame.sk4.D → Option R) (kx : XD laws_lwSame.xs4 → Option R) : roundK (laws_lwSame.cfg N) N (nthLoop (fnBody Try.f7) 0) laws_lwSame.sk4 laws_lwSame.xs4 d kn kx = laws_lwSame.l4 N d kn kx := by kernel_rfl
theorem laws_lwSame.i4 (N : Nat) : LoopsOk Try.prog (laws_lwSame.cfg N) (nthLoop (fnBody Try.f7) 0) := loopsL (l := []) (by kernel_rfl) trivial
theorem laws_lwSame.o4 (N : Nat) : LoopOk Try.prog (nthLoop (fnBody Try.f7) 0) (loopCon N laws_lwSame.sk4 laws_lwSame.xs4 (fun {R} => laws_lwSame.l4 (R := R) N)) := loop_ok (g := laws_lwSame.cfg N) tys_ok (laws_lwSame.cons N) mixed (laws_lwSame.i4 N) (fun d kn kx => laws_lwSame.h4 N d kn kx)
theorem laws_lwSame.ls (N : Nat) : LoopsOk Try.prog (laws_lwSame.cfg N) (fnBody Try.f7) := loopsL (l := [nthLoop (fnBody Try.f7) 0]) (by kernel_rfl) ⟨loopOne (L0 := loopCon N laws_lwSame.sk4 laws_lwSame.xs4 (fun {R} => laws_lwSame.l4 (R := R) N)) (id := 4) (by kernel_rfl) (by kernel_rfl) (laws_lwSame.o4 N), trivial⟩
theorem laws_lwSame.q4 {R R' : Type} {N n : Nat} {d} {k} {g : R → Option R'} : bindF (loopP (laws_lwSame.l4 N) n d k) g = loopP (laws_lwSame.l4 N) n d fun e => bindF (k e) g := bindF_loopP (fun d kn kx => by simp only [laws_lwSame.l4, bindF_ifB, bindF_bindO, bindF_pure, bindF_none, bindF_onSum]) n d k
theorem laws_lwSame.b (N : Nat) (x0 : den (.sl 2 (.int .i64))) (x1 : den (.sl 2 (.int .i64))) : body (laws_lwSame.cfg N) N Try.f7 [.one, .one] [.v, .v] [(false, .imm)] [⟨(.sl 2 (.int .i64)), .imm, x0⟩, ⟨(.sl 2 (.int .i64)), .imm, x1⟩] (fun r i => some (r, i)) = bindO (laws_lwSame N x0 x1) fun r => some ([⟨.bool, .imm, r⟩], []) := by
  show _ = bindF _ _
  conv => rhs; simp only [laws_lwSame, bindF_ifB, bindF_bindO, bindF_pure, bindF_none, bindF_onSum, laws_lwSame.q4]
  kernel_rfl
theorem laws_lwSame.ok (N : Nat) : ConOk Try.prog 7 [.one, .one] (laws_lwSame.con N) := by
  refine conOk_mk (g := laws_lwSame.cfg N) (N := N) (res := [(false, .imm)]) tys_ok (laws_lwSame.cons N) mixed Try.func7 (laws_lwSame.ls N) rfl rfl ?_
  intro ds R k y h
  cases ds with
  | nil => exact none_some h
  | cons d0 ds =>
  cases ds with
  | nil => exact none_some h
  | cons d1 ds =>
  cases ds with
  | cons _ _ => exact none_some h
  | nil =>
  have h0 : (castDm (.sl 2 (.int .i64)) .imm d0 fun x0 => castDm (.sl 2 (.int .i64)) .imm d1 fun x1 => bindO (laws_lwSame N x0 x1) fun r => k [⟨.bool, .imm, r⟩] []) = some y := h
  clear h
  obtain ⟨x0, rfl, h1⟩ := castDm_eq h0
  obtain ⟨x1, rfl, h2⟩ := castDm_eq h1
  exact con_fin (laws_lwSame.b N x0 x1) h2
theorem laws_lwSame.det (N : Nat) : ConDet (laws_lwSame.con N) := by
  intro ds R k y h
  cases ds with
  | nil => exact none_some h
  | cons d0 ds =>
  cases ds with
  | nil => exact none_some h
  | cons d1 ds =>
  cases ds with
  | cons _ _ => exact none_some h
  | nil =>
  have h0 : (castDm (.sl 2 (.int .i64)) .imm d0 fun x0 => castDm (.sl 2 (.int .i64)) .imm d1 fun x1 => bindO (laws_lwSame N x0 x1) fun r => k [⟨.bool, .imm, r⟩] []) = some y := h
  clear h
  obtain ⟨x0, rfl, h1⟩ := castDm_eq h0
  obtain ⟨x1, rfl, h2⟩ := castDm_eq h1
  obtain ⟨r, e, h⟩ := bindO_some h2
  refine ⟨_, _, h, fun k' => ?_⟩
  show (castDm (.sl 2 (.int .i64)) .imm (⟨(.sl 2 (.int .i64)), .imm, x0⟩ : Dy) fun x0 => castDm (.sl 2 (.int .i64)) .imm (⟨(.sl 2 (.int .i64)), .imm, x1⟩ : Dy) fun x1 => bindO (laws_lwSame N x0 x1) fun r => k' [⟨.bool, .imm, r⟩] []) = _
  simp only [castDm_self]
  rw [e]
  rfl
noncomputable def impl_RingPop.con (N : Nat) : Con := { modes := [.v, .v, .v, .v], ptrs := [false], fn := fun ds k => match ds with | [d0, d1, d2, d3] => castDm (.pair (.sl 26 (.sl 2 (.int .i64))) (.pair (.int .i64) .unit)) .imm d0 fun x0 => castDm (.pair (.sl 2 (.int .i64)) (.pair (.int .i64) (.pair (.int .i64) .unit))) .imm d1 fun x1 => castDm (.int .i64) .imm d2 fun x2 => castDm (.int .i64) .imm d3 fun x3 => bindO (impl_RingPop N x0 x1 x2 x3) fun r => k [⟨(.pair (.pair (.sl 2 (.int .i64)) (.pair (.int .i64) (.pair (.int .i64) .unit))) (.pair (.int .i64) (.pair (.int .i64) (.pair (.int .i64) .unit)))), (.pr (.pr (.own .imm) .imm) .imm), r⟩] [] | _ => none }
noncomputable def impl_RingPop.cfg (N : Nat) : Cfg := { ty := tys, keep := [15, 27, 35, 44], flt := [], elm := [(22, (.own .imm)), (23, (.own (.own .imm))), (24, (.pr (.own (.own .imm)) .imm)), (25, (.pr (.own (.own .imm)) .imm)), (26, (.own .imm)), (27, (.pr (.own .imm) .imm)), (28, (.pr (.own .imm) .imm)), (31, (.pr (.pr (.own .imm) .imm) .imm)), (32, (.pr (.pr (.own .imm) .imm) .imm)), (45, (.pr (.pr (.own .imm) .imm) (.pr (.own .imm) .imm))), (46, (.pr (.pr (.own .imm) .imm) (.pr (.own .imm) .imm))), (54, (.pr (.own .imm) .imm)), (55, (.pr (.own .imm) .imm))], live := [], ord := [(4, [0, 1, 2, 3, 4, 5, 6, 7, 8, 9, 10, 11])], con := [((19, [.one, .one]), impl_ringCode.con N), ((24, [.one]), impl_size_SSint64.con N), ((20, [.one, .one, .one, .one]), impl_replace.con N), ((21, [.one]), impl_size_Sint64.con N)], loops := [], joins := [] }
theorem impl_RingPop.cons (N : Nat) : ConsOk Try.prog (impl_RingPop.cfg N).con := (consOk_cons (hb19) (impl_ringCode.ok N) (impl_ringCode.det N) (consOk_cons (hb24) (impl_size_SSint64.ok N) (impl_size_SSint64.det N) (consOk_cons (hb20) (impl_replace.ok N) (impl_replace.det N) (consOk_cons (hb21) (impl_size_Sint64.ok N) (impl_size_Sint64.det N) consOk_nil))))
theorem impl_RingPop.ls (N : Nat) : LoopsOk Try.prog (impl_RingPop.cfg N) (fnBody Try.f9) := loopsL (l := []) (by kernel_rfl) trivial
theorem impl_RingPop.b (N : Nat) (x0 : den (.pair (.sl 26 (.sl 2 (.int .i64))) (.pair (.int .i64) .unit))) (x1 : den (.pair (.sl 2 (.int .i64)) (.pair (.int .i64) (.pair (.int .i64) .unit)))) (x2 : den (.int .i64)) (x3 : den (.int .i64)) : body (impl_RingPop.cfg N) N Try.f9 [.one, .one, .one, .one] [.v, .v, .v, .v] [(false, (.pr (.pr (.own .imm) .imm) .imm))] [⟨(.pair (.sl 26 (.sl 2 (.int .i64))) (.pair (.int .i64) .unit)), .imm, x0⟩, ⟨(.pair (.sl 2 (.int .i64)) (.pair (.int .i64) (.pair (.int .i64) .unit))), .imm, x1⟩, ⟨(.int .i64), .imm, x2⟩, ⟨(.int .i64), .imm, x3⟩] (fun r i => some (r, i)) = bindO (impl_RingPop N x0 x1 x2 x3) fun r => some ([⟨(.pair (.pair (.sl 2 (.int .i64)) (.pair (.int .i64) (.pair (.int .i64) .unit))) (.pair (.int .i64) (.pair (.int .i64) (.pair (.int .i64) .unit)))), (.pr (.pr (.own .imm) .imm) .imm), r⟩], []) := by
  show _ = bindF _ _
  conv => rhs; simp only [impl_RingPop, bindF_ifB, bindF_bindO, bindF_pure, bindF_none, bindF_onSum]
  kernel_rfl
theorem impl_RingPop.ok (N : Nat) : ConOk Try.prog 9 [.one, .one, .one, .one] (impl_RingPop.con N) := by
  refine conOk_mk (g := impl_RingPop.cfg N) (N := N) (res := [(false, (.pr (.pr (.own .imm) .imm) .imm))]) tys_ok (impl_RingPop.cons N) mixed Try.func9 (impl_RingPop.ls N) rfl rfl ?_
  intro ds R k y h
  cases ds with
  | nil => exact none_some h
  | cons d0 ds =>
  cases ds with
  | nil => exact none_some h
  | cons d1 ds =>
  cases ds with
  | nil => exact none_some h
  | cons d2 ds =>
  cases ds with
  | nil => exact none_some h
  | cons d3 ds =>
  cases ds with
  | cons _ _ => exact none_some h
  | nil =>
  have h0 : (castDm (.pair (.sl 26 (.sl 2 (.int .i64))) (.pair (.int .i64) .unit)) .imm d0 fun x0 => castDm (.pair (.sl 2 (.int .i64)) (.pair (.int .i64) (.pair (.int .i64) .unit))) .imm d1 fun x1 => castDm (.int .i64) .imm d2 fun x2 => castDm (.int .i64) .imm d3 fun x3 => bindO (impl_RingPop N x0 x1 x2 x3) fun r => k [⟨(.pair (.pair (.sl 2 (.int .i64)) (.pair (.int .i64) (.pair (.int .i64) .unit))) (.pair (.int .i64) (.pair (.int .i64) (.pair (.int .i64) .unit)))), (.pr (.pr (.own .imm) .imm) .imm), r⟩] []) = some y := h
  clear h
  obtain ⟨x0, rfl, h1⟩ := castDm_eq h0
  obtain ⟨x1, rfl, h2⟩ := castDm_eq h1
  obtain ⟨x2, rfl, h3⟩ := castDm_eq h2
  obtain ⟨x3, rfl, h4⟩ := castDm_eq h3
  exact con_fin (impl_RingPop.b N x0 x1 x2 x3) h4
theorem impl_RingPop.det (N : Nat) : ConDet (impl_RingPop.con N) := by
  intro ds R k y h
  cases ds with
  | nil => exact none_some h
  | cons d0 ds =>
  cases ds with
  | nil => exact none_some h
  | cons d1 ds =>
  cases ds with
  | nil => exact none_some h
  | cons d2 ds =>
  cases ds with
  | nil => exact none_some h
  | cons d3 ds =>
  cases ds with
  | cons _ _ => exact none_some h
  | nil =>
  have h0 : (castDm (.pair (.sl 26 (.sl 2 (.int .i64))) (.pair (.int .i64) .unit)) .imm d0 fun x0 => castDm (.pair (.sl 2 (.int .i64)) (.pair (.int .i64) (.pair (.int .i64) .unit))) .imm d1 fun x1 => castDm (.int .i64) .imm d2 fun x2 => castDm (.int .i64) .imm d3 fun x3 => bindO (impl_RingPop N x0 x1 x2 x3) fun r => k [⟨(.pair (.pair (.sl 2 (.int .i64)) (.pair (.int .i64) (.pair (.int .i64) .unit))) (.pair (.int .i64) (.pair (.int .i64) (.pair (.int .i64) .unit)))), (.pr (.pr (.own .imm) .imm) .imm), r⟩] []) = some y := h
  clear h
  obtain ⟨x0, rfl, h1⟩ := castDm_eq h0
  obtain ⟨x1, rfl, h2⟩ := castDm_eq h1
  obtain ⟨x2, rfl, h3⟩ := castDm_eq h2
  obtain ⟨x3, rfl, h4⟩ := castDm_eq h3
  obtain ⟨r, e, h⟩ := bindO_some h4
  refine ⟨_, _, h, fun k' => ?_⟩
  show (castDm (.pair (.sl 26 (.sl 2 (.int .i64))) (.pair (.int .i64) .unit)) .imm (⟨(.pair (.sl 26 (.sl 2 (.int .i64))) (.pair (.int .i64) .unit)), .imm, x0⟩ : Dy) fun x0 => castDm (.pair (.sl 2 (.int .i64)) (.pair (.int .i64) (.pair (.int .i64) .unit))) .imm (⟨(.pair (.sl 2 (.int .i64)) (.pair (.int .i64) (.pair (.int .i64) .unit))), .imm, x1⟩ : Dy) fun x1 => castDm (.int .i64) .imm (⟨(.int .i64), .imm, x2⟩ : Dy) fun x2 => castDm (.int .i64) .imm (⟨(.int .i64), .imm, x3⟩ : Dy) fun x3 => bindO (impl_RingPop N x0 x1 x2 x3) fun r => k' [⟨(.pair (.pair (.sl 2 (.int .i64)) (.pair (.int .i64) (.pair (.int .i64) .unit))) (.pair (.int .i64) (.pair (.int .i64) (.pair (.int .i64) .unit)))), (.pr (.pr (.own .imm) .imm) .imm), r⟩] []) = _
  simp only [castDm_self]
  rw [e]
  rfl
def spec_l04CopyAll.sk3 : Skel := ⟨[.pv (.sl 26 (.sl 2 (.int .i64))), .dead, .dead, .ov 50 [], .pv (.int .i64), .dead, .dead, .dead, .dead, .dead, .dead, .dead, .dead, .dead, .dead, .dead, .dead, .dead, .dead, .dead, .dead], [⟨50, (.sl 26 (.sl 2 (.int .i64))), (.own (.own .imm)), false, false⟩]⟩
def spec_l04CopyAll.xs3 : List XS := [⟨.exit 0, [3], ⟨[.dead, .dead, .dead, .ov 50 [], .dead, .dead, .dead, .dead, .dead, .dead, .dead, .dead, .dead, .dead, .dead, .dead, .dead, .dead, .dead, .dead, .dead], [⟨50, (.sl 26 (.sl 2 (.int .i64))), (.own (.own .imm)), false, false⟩]⟩⟩]
noncomputable def spec_l04CopyAll.con (N : Nat) : Con := { modes := [.v], ptrs := [false], fn := fun ds k => match ds with | [d0] => castDm (.sl 26 (.sl 2 (.int .i64))) .imm d0 fun x0 => bindO (spec_l04CopyAll N x0) fun r => k [⟨(.sl 26 (.sl 2 (.int .i64))), (.own (.own .imm)), r⟩] [] | _ => none }
noncomputable def spec_l04CopyAll.cfg (N : Nat) : Cfg := { ty := tys, keep := [17], flt := [], elm := [(22, (.own .imm)), (23, (.own (.own .imm))), (24, (.pr (.own (.own .imm)) .imm)), (25, (.pr (.own (.own .imm)) .imm)), (26, (.own .imm)), (27, (.pr (.own .imm) .imm)), (28, (.pr (.own .imm) .imm)), (31, (.pr (.pr (.own .imm) .imm) .imm)), (32, (.pr (.pr (.own .imm) .imm) .imm)), (45, (.pr (.pr (.own .imm) .imm) (.pr (.own .imm) .imm))), (46, (.pr (.pr (.own .imm) .imm) (.pr (.own .imm) .imm))), (54, (.pr (.own .imm) .imm)), (55, (.pr (.own .imm) .imm))], live := [(3, [0, 3, 4])], ord := [], con := [((33, [.one]), spec_l01Copy.con N)], loops := [(3, loopCon N spec_l04CopyAll.sk3 spec_l04CopyAll.xs3 (fun {R} => spec_l04CopyAll.l3 (R := R) N))], joins := [] }
theorem spec_l04CopyAll.cons (N : Nat) : ConsOk Try.prog (spec_l04CopyAll.cfg N).con := (consOk_cons (hb33) (spec_l01Copy.ok N) (spec_l01Copy.det N) consOk_nil)
theorem spec_l04CopyAll.h3 {R : Type} (N : Nat) (d : spec_l04CopyAll.sk3.D) (kn : spec_l04CopyAll.sk3.D → Option R) (kx : XD spec_l04CopyAll.xs3 → Option R) : roundK (spec_l04CopyAll.cfg N) N (nthLoop (fnBody Try.f50) 0) spec_l04CopyAll.sk3 spec_l04CopyAll.xs3 d kn kx = spec_l04CopyAll.l3 N d kn kx := by kernel_rfl
theorem spec_l04CopyAll.i3 (N : Nat) : LoopsOk Try.prog (spec_l04CopyAll.cfg N) (nthLoop (fnBody Try.f50) 0) := loopsL (l := []) (by kernel_rfl) trivial
theorem spec_l04CopyAll.o3 (N : Nat) : LoopOk Try.prog (nthLoop (fnBody Try.f50) 0) (loopCon N spec_l04CopyAll.sk3 spec_l04CopyAll.xs3 (fun {R} => spec_l04CopyAll.l3 (R := R) N)) := loop_ok (g := spec_l04CopyAll.cfg N) tys_ok (spec_l04CopyAll.cons N) mixed (spec_l04CopyAll.i3 N) (fun d kn kx => spec_l04CopyAll.h3 N d kn kx)
theorem spec_l04CopyAll.ls (N : Nat) : LoopsOk Try.prog (spec_l04CopyAll.cfg N) (fnBody Try.f50) := loopsL (l := [nthLoop (fnBody Try.f50) 0]) (by kernel_rfl) ⟨loopOne (L0 := loopCon N spec_l04CopyAll.sk3 spec_l04CopyAll.xs3 (fun {R} => spec_l04CopyAll.l3 (R := R) N)) (id := 3) (by kernel_rfl) (by kernel_rfl) (spec_l04CopyAll.o3 N), trivial⟩
theorem spec_l04CopyAll.q3 {R R' : Type} {N n : Nat} {d} {k} {g : R → Option R'} : bindF (loopP (spec_l04CopyAll.l3 N) n d k) g = loopP (spec_l04CopyAll.l3 N) n d fun e => bindF (k e) g := bindF_loopP (fun d kn kx => by simp only [spec_l04CopyAll.l3, bindF_ifB, bindF_bindO, bindF_pure, bindF_none, bindF_onSum]) n d k
theorem spec_l04CopyAll.b (N : Nat) (x0 : den (.sl 26 (.sl 2 (.int .i64)))) : body (spec_l04CopyAll.cfg N) N Try.f50 [.one] [.v] [(false, (.own (.own .imm)))] [⟨(.sl 26 (.sl 2 (.int .i64))), .imm, x0⟩] (fun r i => some (r, i)) = bindO (spec_l04CopyAll N x0) fun r => some ([⟨(.sl 26 (.sl 2 (.int .i64))), (.own (.own .imm)), r⟩], []) := by
  show _ = bindF _ _
  conv => rhs; simp only [spec_l04CopyAll, bindF_ifB, bindF_bindO, bindF_pure, bindF_none, bindF_onSum, spec_l04CopyAll.q3]
  kernel_rfl
theorem spec_l04CopyAll.ok (N : Nat) : ConOk Try.prog 50 [.one] (spec_l04CopyAll.con N) := by
  refine conOk_mk (g := spec_l04CopyAll.cfg N) (N := N) (res := [(false, (.own (.own .imm)))]) tys_ok (spec_l04CopyAll.cons N) mixed Try.func50 (spec_l04CopyAll.ls N) rfl rfl ?_
  intro ds R k y h
  cases ds with
  | nil => exact none_some h
  | cons d0 ds =>
  cases ds with
  | cons _ _ => exact none_some h
  | nil =>
  have h0 : (castDm (.sl 26 (.sl 2 (.int .i64))) .imm d0 fun x0 => bindO (spec_l04CopyAll N x0) fun r => k [⟨(.sl 26 (.sl 2 (.int .i64))), (.own (.own .imm)), r⟩] []) = some y := h
  clear h
  obtain ⟨x0, rfl, h1⟩ := castDm_eq h0
  exact con_fin (spec_l04CopyAll.b N x0) h1
theorem spec_l04CopyAll.det (N : Nat) : ConDet (spec_l04CopyAll.con N) := by
  intro ds R k y h
  cases ds with
  | nil => exact none_some h
  | cons d0 ds =>
  cases ds with
  | cons _ _ => exact none_some h
  | nil =>
  have h0 : (castDm (.sl 26 (.sl 2 (.int .i64))) .imm d0 fun x0 => bindO (spec_l04CopyAll N x0) fun r => k [⟨(.sl 26 (.sl 2 (.int .i64))), (.own (.own .imm)), r⟩] []) = some y := h
  clear h
  obtain ⟨x0, rfl, h1⟩ := castDm_eq h0
  obtain ⟨r, e, h⟩ := bindO_some h1
  refine ⟨_, _, h, fun k' => ?_⟩
  show (castDm (.sl 26 (.sl 2 (.int .i64))) .imm (⟨(.sl 26 (.sl 2 (.int .i64))), .imm, x0⟩ : Dy) fun x0 => bindO (spec_l04CopyAll N x0) fun r => k' [⟨(.sl 26 (.sl 2 (.int .i64))), (.own (.own .imm)), r⟩] []) = _
  simp only [castDm_self]
  rw [e]
  rfl
noncomputable def spec_l04Copy.con (N : Nat) : Con := { modes := [.v], ptrs := [false], fn := fun ds k => match ds with | [d0] => castDm (.pair (.sl 26 (.sl 2 (.int .i64))) (.pair (.int .i64) .unit)) .imm d0 fun x0 => bindO (spec_l04Copy N x0) fun r => k [⟨(.pair (.sl 26 (.sl 2 (.int .i64))) (.pair (.int .i64) .unit)), (.pr (.own (.own .imm)) .imm), r⟩] [] | _ => none }
noncomputable def spec_l04Copy.cfg (N : Nat) : Cfg := { ty := tys, keep := [5], flt := [], elm := [(22, (.own .imm)), (23, (.own (.own .imm))), (24, (.pr (.own (.own .imm)) .imm)), (25, (.pr (.own (.own .imm)) .imm)), (26, (.own .imm)), (27, (.pr (.own .imm) .imm)), (28, (.pr (.own .imm) .imm)), (31, (.pr (.pr (.own .imm) .imm) .imm)), (32, (.pr (.pr (.own .imm) .imm) .imm)), (45, (.pr (.pr (.own .imm) .imm) (.pr (.own .imm) .imm))), (46, (.pr (.pr (.own .imm) .imm) (.pr (.own .imm) .imm))), (54, (.pr (.own .imm) .imm)), (55, (.pr (.own .imm) .imm))], live := [], ord := [(1, [0, 1, 3, 4, 2, 5, 6])], con := [((50, [.one]), spec_l04CopyAll.con N)], loops := [], joins := [] }
theorem spec_l04Copy.cons (N : Nat) : ConsOk Try.prog (spec_l04Copy.cfg N).con := (consOk_cons (hb50) (spec_l04CopyAll.ok N) (spec_l04CopyAll.det N) consOk_nil)
theorem spec_l04Copy.ls (N : Nat) : LoopsOk Try.prog (spec_l04Copy.cfg N) (fnBody Try.f39) := loopsL (l := []) (by kernel_rfl) trivial
theorem spec_l04Copy.b (N : Nat) (x0 : den (.pair (.sl 26 (.sl 2 (.int .i64))) (.pair (.int .i64) .unit))) : body (spec_l04Copy.cfg N) N Try.f39 [.one] [.v] [(false, (.pr (.own (.own .imm)) .imm))] [⟨(.pair (.sl 26 (.sl 2 (.int .i64))) (.pair (.int .i64) .unit)), .imm, x0⟩] (fun r i => some (r, i)) = bindO (spec_l04Copy N x0) fun r => some ([⟨(.pair (.sl 26 (.sl 2 (.int .i64))) (.pair (.int .i64) .unit)), (.pr (.own (.own .imm)) .imm), r⟩], []) := by
  show _ = bindF _ _
  conv => rhs; simp only [spec_l04Copy, bindF_ifB, bindF_bindO, bindF_pure, bindF_none, bindF_onSum]
  kernel_rfl
theorem spec_l04Copy.ok (N : Nat) : ConOk Try.prog 39 [.one] (spec_l04Copy.con N) := by
  refine conOk_mk (g := spec_l04Copy.cfg N) (N := N) (res := [(false, (.pr (.own (.own .imm)) .imm))]) tys_ok (spec_l04Copy.cons N) mixed Try.func39 (spec_l04Copy.ls N) rfl rfl ?_
  intro ds R k y h
  cases ds with
  | nil => exact none_some h
  | cons d0 ds =>
  cases ds with
  | cons _ _ => exact none_some h
  | nil =>
  have h0 : (castDm (.pair (.sl 26 (.sl 2 (.int .i64))) (.pair (.int .i64) .unit)) .imm d0 fun x0 => bindO (spec_l04Copy N x0) fun r => k [⟨(.pair (.sl 26 (.sl 2 (.int .i64))) (.pair (.int .i64) .unit)), (.pr (.own (.own .imm)) .imm), r⟩] []) = some y := h
  clear h
  obtain ⟨x0, rfl, h1⟩ := castDm_eq h0
  exact con_fin (spec_l04Copy.b N x0) h1
theorem spec_l04Copy.det (N : Nat) : ConDet (spec_l04Copy.con N) := by
  intro ds R k y h
  cases ds with
  | nil => exact none_some h
  | cons d0 ds =>
  cases ds with
  | cons _ _ => exact none_some h
  | nil =>
  have h0 : (castDm (.pair (.sl 26 (.sl 2 (.int .i64))) (.pair (.int .i64) .unit)) .imm d0 fun x0 => bindO (spec_l04Copy N x0) fun r => k [⟨(.pair (.sl 26 (.sl 2 (.int .i64))) (.pair (.int .i64) .unit)), (.pr (.own (.own .imm)) .imm), r⟩] []) = some y := h
  clear h
  obtain ⟨x0, rfl, h1⟩ := castDm_eq h0
  obtain ⟨r, e, h⟩ := bindO_some h1
  refine ⟨_, _, h, fun k' => ?_⟩
  show (castDm (.pair (.sl 26 (.sl 2 (.int .i64))) (.pair (.int .i64) .unit)) .imm (⟨(.pair (.sl 26 (.sl 2 (.int .i64))) (.pair (.int .i64) .unit)), .imm, x0⟩ : Dy) fun x0 => bindO (spec_l04Copy N x0) fun r => k' [⟨(.pair (.sl 26 (.sl 2 (.int .i64))) (.pair (.int .i64) .unit)), (.pr (.own (.own .imm)) .imm), r⟩] []) = _
  simp only [castDm_self]
  rw [e]
  rfl
noncomputable def spec_RingTurn.con (N : Nat) : Con := { modes := [.v], ptrs := [false], fn := fun ds k => match ds with | [d0] => castDm (.pair (.sl 26 (.sl 2 (.int .i64))) (.pair (.int .i64) .unit)) .imm d0 fun x0 => bindO (spec_RingTurn N x0) fun r => k [⟨(.pair (.sl 26 (.sl 2 (.int .i64))) (.pair (.int .i64) .unit)), (.pr (.own (.own .imm)) .imm), r⟩] [] | _ => none }
noncomputable def spec_RingTurn.cfg (N : Nat) : Cfg := { ty := tys, keep := [5, 7], flt := [], elm := [(22, (.own .imm)), (23, (.own (.own .imm))), (24, (.pr (.own (.own .imm)) .imm)), (25, (.pr (.own (.own .imm)) .imm)), (26, (.own .imm)), (27, (.pr (.own .imm) .imm)), (28, (.pr (.own .imm) .imm)), (31, (.pr (.pr (.own .imm) .imm) .imm)), (32, (.pr (.pr (.own .imm) .imm) .imm)), (45, (.pr (.pr (.own .imm) .imm) (.pr (.own .imm) .imm))), (46, (.pr (.pr (.own .imm) .imm) (.pr (.own .imm) .imm))), (54, (.pr (.own .imm) .imm)), (55, (.pr (.own .imm) .imm))], live := [], ord := [], con := [((39, [.one]), spec_l04Copy.con N), ((15, [.one]), spec_RingRight.con N)], loops := [], joins := [] }
theorem spec_RingTurn.cons (N : Nat) : ConsOk Try.prog (spec_RingTurn.cfg N).con := (consOk_cons (hb39) (spec_l04Copy.ok N) (spec_l04Copy.det N) (consOk_cons (hb15) (spec_RingRight.ok N) (spec_RingRight.det N) consOk_nil))
theorem spec_RingTurn.ls (N : Nat) : LoopsOk Try.prog (spec_RingTurn.cfg N) (fnBody Try.f25) := loopsL (l := []) (by kernel_rfl) trivial
theorem spec_RingTurn.b (N : Nat) (x0 : den (.pair (.sl 26 (.sl 2 (.int .i64))) (.pair (.int .i64) .unit))) : body (spec_RingTurn.cfg N) N Try.f25 [.one] [.v] [(false, (.pr (.own (.own .imm)) .imm))] [⟨(.pair (.sl 26 (.sl 2 (.int .i64))) (.pair (.int .i64) .unit)), .imm, x0⟩] (fun r i => some (r, i)) = bindO (spec_RingTurn N x0) fun r => some ([⟨(.pair (.sl 26 (.sl 2 (.int .i64))) (.pair (.int .i64) .unit)), (.pr (.own (.own .imm)) .imm), r⟩], []) := by
  show _ = bindF _ _
  conv => rhs; simp only [spec_RingTurn, bindF_ifB, bindF_bindO, bindF_pure, bindF_none, bindF_onSum]
  kernel_rfl
theorem spec_RingTurn.ok (N : Nat) : ConOk Try.prog 25 [.one] (spec_RingTurn.con N) := by
  refine conOk_mk (g := spec_RingTurn.cfg N) (N := N) (res := [(false, (.pr (.own (.own .imm)) .imm))]) tys_ok (spec_RingTurn.cons N) mixed Try.func25 (spec_RingTurn.ls N) rfl rfl ?_
  intro ds R k y h
  cases ds with
  | nil => exact none_some h
  | cons d0 ds =>
  cases ds with
  | cons _ _ => exact none_some h
  | nil =>
  have h0 : (castDm (.pair (.sl 26 (.sl 2 (.int .i64))) (.pair (.int .i64) .unit)) .imm d0 fun x0 => bindO (spec_RingTurn N x0) fun r => k [⟨(.pair (.sl 26 (.sl 2 (.int .i64))) (.pair (.int .i64) .unit)), (.pr (.own (.own .imm)) .imm), r⟩] []) = some y := h
  clear h
  obtain ⟨x0, rfl, h1⟩ := castDm_eq h0
  exact con_fin (spec_RingTurn.b N x0) h1
theorem spec_RingTurn.det (N : Nat) : ConDet (spec_RingTurn.con N) := by
  intro ds R k y h
  cases ds with
  | nil => exact none_some h
  | cons d0 ds =>
  cases ds with
  | cons _ _ => exact none_some h
  | nil =>
  have h0 : (castDm (.pair (.sl 26 (.sl 2 (.int .i64))) (.pair (.int .i64) .unit)) .imm d0 fun x0 => bindO (spec_RingTurn N x0) fun r => k [⟨(.pair (.sl 26 (.sl 2 (.int .i64))) (.pair (.int .i64) .unit)), (.pr (.own (.own .imm)) .imm), r⟩] []) = some y := h
  clear h
  obtain ⟨x0, rfl, h1⟩ := castDm_eq h0
  obtain ⟨r, e, h⟩ := bindO_some h1
  refine ⟨_, _, h, fun k' => ?_⟩
  show (castDm (.pair (.sl 26 (.sl 2 (.int .i64))) (.pair (.int .i64) .unit)) .imm (⟨(.pair (.sl 26 (.sl 2 (.int .i64))) (.pair (.int .i64) .unit)), .imm, x0⟩ : Dy) fun x0 => bindO (spec_RingTurn N x0) fun r => k' [⟨(.pair (.sl 26 (.sl 2 (.int .i64))) (.pair (.int .i64) .unit)), (.pr (.own (.own .imm)) .imm), r⟩] []) = _
  simp only [castDm_self]
  rw [e]
  rfl
end Go.AE.F
