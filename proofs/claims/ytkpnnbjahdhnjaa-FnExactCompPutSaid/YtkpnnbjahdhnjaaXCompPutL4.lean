/- The printed functions are what the program comes to: contracts. -/
import Derived.Test.YtkpnnbjahdhnjaaXCompPutL3
namespace Go.AE.F
open Go.AE Go.Proofs
set_option maxRecDepth 100000
def impl_common.sk5 : Skel := ⟨[.dead, .dead, .dead, .dead, .dead, .ptr 50 [], .dead, .ptr 51 [], .dead, .dead, .dead, .dead, .dead, .dead, .dead, .dead, .dead, .dead, .dead, .dead, .dead, .dead, .dead, .dead, .dead, .dead, .dead, .dead, .dead, .dead, .dead, .dead], [⟨50, (.sl 22 (.sl 2 (.int .i64))), (.own .imm), true, false⟩, ⟨51, (.int .i64), .imm, true, false⟩]⟩
def impl_common.xs5 : List XS := [⟨.exit 0, [5, 7], ⟨[.dead, .dead, .dead, .dead, .dead, .ptr 50 [], .dead, .ptr 51 [], .dead, .dead, .dead, .dead, .dead, .dead, .dead, .dead, .dead, .dead, .dead, .dead, .dead, .dead, .dead, .dead, .dead, .dead, .dead, .dead, .dead, .dead, .dead, .dead], [⟨50, (.sl 22 (.sl 2 (.int .i64))), (.own .imm), true, false⟩, ⟨51, (.int .i64), .imm, true, false⟩]⟩⟩]
noncomputable def impl_common.con (N : Nat) : Con := { modes := [.v, .v], ptrs := [false], fn := fun ds k => match ds with | [d0, d1] => castDm (.sl 22 (.sl 2 (.int .i64))) .imm d0 fun x0 => castDm (.sl 2 (.int .i64)) .imm d1 fun x1 => bindO (impl_common N x0 x1) fun r => k [⟨(.sl 2 (.int .i64)), .imm, r⟩] [] | _ => none }
noncomputable def impl_common.cfg (N : Nat) : Cfg := { ty := tys, keep := [11, 24], flt := [], elm := [(22, (.own .imm)), (23, (.pr (.own .imm) .imm)), (24, (.pr (.own .imm) .imm)), (25, (.own (.own .imm))), (28, (.pr (.own .imm) .imm)), (29, (.pr (.pr (.own .imm) .imm) (.pr (.own .imm) .imm))), (30, (.pr (.pr (.own .imm) .imm) (.pr (.own .imm) .imm)))], live := [(5, [5, 7])], ord := [(7, [0, 1, 2, 3, 4, 5])], con := [((30, [.one, .one]), impl_matches.con N), ((45, [.one, .fn 54 2]), slices_ContainsFunc_S_Sint64__Sint64__impl_common_c1.con N)], loops := [(5, loopCon N impl_common.sk5 impl_common.xs5 (fun {R} => impl_common.l5 (R := R) N))], joins := [] }
theorem impl_common.cons (N : Nat) : ConsOk Try.prog (impl_common.cfg N).con := (consOk_cons (hb30) (impl_matches.ok N) (impl_matches.det N) (consOk_cons (hb45) (slices_ContainsFunc_S_Sint64__Sint64__impl_common_c1.ok N) (slices_ContainsFunc_S_Sint64__Sint64__impl_common_c1.det N) consOk_nil))
theorem impl_common.h5 {R : Type} (N : Nat) (d : impl_common.sk5.D) (kn : impl_common.sk5.D → Option R) (kx : XD impl_common.xs5 → Option R) : roundK (impl_common.cfg N) N (nthLoop (fnBody Try.f32) 0) impl_common.sk5 impl_common.xs5 d kn kx = impl_common.l5 N d kn kx := by kernel_rfl
theorem impl_common.i5 (N : Nat) : LoopsOk Try.prog (impl_common.cfg N) (nthLoop (fnBody Try.f32) 0) := loopsL (l := []) (by kernel_rfl) trivial
theorem impl_common.o5 (N : Nat) : LoopOk Try.prog (nthLoop (fnBody Try.f32) 0) (loopCon N impl_common.sk5 impl_common.xs5 (fun {R} => impl_common.l5 (R := R) N)) := loop_ok (g := impl_common.cfg N) tys_ok (impl_common.cons N) mixed (impl_common.i5 N) (fun d kn kx => impl_common.h5 N d kn kx)
theorem impl_common.ls (N : Nat) : LoopsOk Try.prog (impl_common.cfg N) (fnBody Try.f32) := loopsL (l := [nthLoop (fnBody Try.f32) 0]) (by kernel_rfl) ⟨loopOne (L0 := loopCon N impl_common.sk5 impl_common.xs5 (fun {R} => impl_common.l5 (R := R) N)) (id := 5) (by kernel_rfl) (by kernel_rfl) (impl_common.o5 N), trivial⟩
theorem impl_common.q5 {R R' : Type} {N n : Nat} {d} {k} {g : R → Option R'} : bindF (loopP (impl_common.l5 N) n d k) g = loopP (impl_common.l5 N) n d fun e => bindF (k e) g := bindF_loopP (fun d kn kx => by simp only [impl_common.l5, bindF_ifB, bindF_bindO, bindF_pure, bindF_none, bindF_onSum]) n d k
theorem impl_common.b (N : Nat) (x0 : den (.sl 22 (.sl 2 (.int .i64)))) (x1 : den (.sl 2 (.int .i64))) : body (impl_common.cfg N) N Try.f32 [.one, .one] [.v, .v] [(false, .imm)] [⟨(.sl 22 (.sl 2 (.int .i64))), .imm, x0⟩, ⟨(.sl 2 (.int .i64)), .imm, x1⟩] (fun r i => some (r, i)) = bindO (impl_common N x0 x1) fun r => some ([⟨(.sl 2 (.int .i64)), .imm, r⟩], []) := by
  show _ = bindF _ _
  conv => rhs; simp only [impl_common, bindF_ifB, bindF_bindO, bindF_pure, bindF_none, bindF_onSum, impl_common.q5]
  kernel_rfl
theorem impl_common.ok (N : Nat) : ConOk Try.prog 32 [.one, .one] (impl_common.con N) := by
  refine conOk_mk (g := impl_common.cfg N) (N := N) (res := [(false, .imm)]) tys_ok (impl_common.cons N) mixed Try.func32 (impl_common.ls N) rfl rfl ?_
  intro ds R k y h
  cases ds with
  | nil => exact none_some h
  | cons d0 ds =>
  cases ds with
  | nil => exact none_some h
  | cons d1 ds =>
  cases ds with
  | cons _ _ => exact none_some h
  | nil =>
  have h0 : (castDm (.sl 22 (.sl 2 (.int .i64))) .imm d0 fun x0 => castDm (.sl 2 (.int .i64)) .imm d1 fun x1 => bindO (impl_common N x0 x1) fun r => k [⟨(.sl 2 (.int .i64)), .imm, r⟩] []) = some y := h
  clear h
  obtain ⟨x0, rfl, h1⟩ := castDm_eq h0
  obtain ⟨x1, rfl, h2⟩ := castDm_eq h1
  exact con_fin (impl_common.b N x0 x1) h2
theorem impl_common.det (N : Nat) : ConDet (impl_common.con N) := by
  intro ds R k y h
  cases ds with
  | nil => exact none_some h
  | cons d0 ds =>
  cases ds with
  | nil => exact none_some h
  | cons d1 ds =>
  cases ds with
  | cons _ _ => exact none_some h
  | nil =>
  have h0 : (castDm (.sl 22 (.sl 2 (.int .i64))) .imm d0 fun x0 => castDm (.sl 2 (.int .i64)) .imm d1 fun x1 => bindO (impl_common N x0 x1) fun r => k [⟨(.sl 2 (.int .i64)), .imm, r⟩] []) = some y := h
  clear h
  obtain ⟨x0, rfl, h1⟩ := castDm_eq h0
  obtain ⟨x1, rfl, h2⟩ := castDm_eq h1
  obtain ⟨r, e, h⟩ := bindO_some h2
  refine ⟨_, _, h, fun k' => ?_⟩
  show (castDm (.sl 22 (.sl 2 (.int .i64))) .imm (⟨(.sl 22 (.sl 2 (.int .i64))), .imm, x0⟩ : Dy) fun x0 => castDm (.sl 2 (.int .i64)) .imm (⟨(.sl 2 (.int .i64)), .imm, x1⟩ : Dy) fun x1 => bindO (impl_common N x0 x1) fun r => k' [⟨(.sl 2 (.int .i64)), .imm, r⟩] []) = _
  simp only [castDm_self]
  rw [e]
  rfl
noncomputable def slices_Clone_Sint64_int64.con (N : Nat) : Con := { modes := [.v], ptrs := [false], fn := fun ds k => match ds with | [d0] => castDm (.sl 2 (.int .i64)) .imm d0 fun x0 => bindO (slices_Clone_Sint64_int64 N x0) fun r => k [⟨(.sl 2 (.int .i64)), (.own .imm), r⟩] [] | _ => none }
noncomputable def slices_Clone_Sint64_int64.cfg (N : Nat) : Cfg := { ty := tys, keep := [], flt := [], elm := [(22, (.own .imm)), (23, (.pr (.own .imm) .imm)), (24, (.pr (.own .imm) .imm)), (25, (.own (.own .imm))), (28, (.pr (.own .imm) .imm)), (29, (.pr (.pr (.own .imm) .imm) (.pr (.own .imm) .imm))), (30, (.pr (.pr (.own .imm) .imm) (.pr (.own .imm) .imm)))], live := [], ord := [], con := [], loops := [], joins := [] }
theorem slices_Clone_Sint64_int64.cons (N : Nat) : ConsOk Try.prog (slices_Clone_Sint64_int64.cfg N).con := consOk_nil
theorem slices_Clone_Sint64_int64.ls (N : Nat) : LoopsOk Try.prog (slices_Clone_Sint64_int64.cfg N) (fnBody Try.f31) := loopsL (l := []) (by kernel_rfl) trivial
theorem slices_Clone_Sint64_int64.pu {R : Type} (N : Nat) (x0 : den (.sl 2 (.int .i64))) (f : _ → Option R) : Psh (slices_Clone_Sint64_int64 N x0) (slices_Clone_Sint64_int64.g N x0 f) f := by
  unfold slices_Clone_Sint64_int64 slices_Clone_Sint64_int64.g
  repeat' (first | exact psh_pure | exact psh_none | refine psh_ifB ?_ ?_ | refine psh_same ?_ ?_ | refine psh_bindO fun _ => ?_)
theorem slices_Clone_Sint64_int64.b (N : Nat) (x0 : den (.sl 2 (.int .i64))) : body (slices_Clone_Sint64_int64.cfg N) N Try.f31 [.one] [.v] [(false, (.own .imm))] [⟨(.sl 2 (.int .i64)), .imm, x0⟩] (fun r i => some (r, i)) = slices_Clone_Sint64_int64.g N x0 fun r => some ([⟨(.sl 2 (.int .i64)), (.own .imm), r⟩], []) := by kernel_rfl
theorem slices_Clone_Sint64_int64.ok (N : Nat) : ConOk Try.prog 31 [.one] (slices_Clone_Sint64_int64.con N) := by
  refine conOk_mk (g := slices_Clone_Sint64_int64.cfg N) (N := N) (res := [(false, (.own .imm))]) tys_ok (slices_Clone_Sint64_int64.cons N) mixed Try.func31 (slices_Clone_Sint64_int64.ls N) rfl rfl ?_
  intro ds R k y h
  cases ds with
  | nil => exact none_some h
  | cons d0 ds =>
  cases ds with
  | cons _ _ => exact none_some h
  | nil =>
  have h0 : (castDm (.sl 2 (.int .i64)) .imm d0 fun x0 => bindO (slices_Clone_Sint64_int64 N x0) fun r => k [⟨(.sl 2 (.int .i64)), (.own .imm), r⟩] []) = some y := h
  clear h
  obtain ⟨x0, rfl, h1⟩ := castDm_eq h0
  exact con_fin' (slices_Clone_Sint64_int64.b N x0) (slices_Clone_Sint64_int64.pu N x0 _) h1
theorem slices_Clone_Sint64_int64.det (N : Nat) : ConDet (slices_Clone_Sint64_int64.con N) := by
  intro ds R k y h
  cases ds with
  | nil => exact none_some h
  | cons d0 ds =>
  cases ds with
  | cons _ _ => exact none_some h
  | nil =>
  have h0 : (castDm (.sl 2 (.int .i64)) .imm d0 fun x0 => bindO (slices_Clone_Sint64_int64 N x0) fun r => k [⟨(.sl 2 (.int .i64)), (.own .imm), r⟩] []) = some y := h
  clear h
  obtain ⟨x0, rfl, h1⟩ := castDm_eq h0
  obtain ⟨r, e, h⟩ := bindO_some h1
  refine ⟨_, _, h, fun k' => ?_⟩
  show (castDm (.sl 2 (.int .i64)) .imm (⟨(.sl 2 (.int .i64)), .imm, x0⟩ : Dy) fun x0 => bindO (slices_Clone_Sint64_int64 N x0) fun r => k' [⟨(.sl 2 (.int .i64)), (.own .imm), r⟩] []) = _
  simp only [castDm_self]
  rw [e]
  rfl
noncomputable def slices_Grow_Sint64_int64.con (N : Nat) : Con := { modes := [.nl, .v], ptrs := [false], fn := fun ds k => match ds with | [d0, d1] => castDm (.sl 2 (.int .i64)) .imm d0 fun x0 => castDm (.int .i64) .imm d1 fun x1 => bindO (slices_Grow_Sint64_int64 N x0 x1) fun r => k [⟨(.sl 2 (.int .i64)), (.own .imm), r⟩] [] | _ => none }
noncomputable def slices_Grow_Sint64_int64.cfg (N : Nat) : Cfg := { ty := tys, keep := [], flt := [], elm := [(22, (.own .imm)), (23, (.pr (.own .imm) .imm)), (24, (.pr (.own .imm) .imm)), (25, (.own (.own .imm))), (28, (.pr (.own .imm) .imm)), (29, (.pr (.pr (.own .imm) .imm) (.pr (.own .imm) .imm))), (30, (.pr (.pr (.own .imm) .imm) (.pr (.own .imm) .imm)))], live := [], ord := [], con := [], loops := [], joins := [] }
theorem slices_Grow_Sint64_int64.cons (N : Nat) : ConsOk Try.prog (slices_Grow_Sint64_int64.cfg N).con := consOk_nil
theorem slices_Grow_Sint64_int64.ls (N : Nat) : LoopsOk Try.prog (slices_Grow_Sint64_int64.cfg N) (fnBody Try.f65) := loopsL (l := []) (by kernel_rfl) trivial
theorem slices_Grow_Sint64_int64.b (N : Nat) (x0 : den (.sl 2 (.int .i64))) (x1 : den (.int .i64)) : body (slices_Grow_Sint64_int64.cfg N) N Try.f65 [.one, .one] [.nl, .v] [(false, (.own .imm))] [⟨(.sl 2 (.int .i64)), .imm, x0⟩, ⟨(.int .i64), .imm, x1⟩] (fun r i => some (r, i)) = bindO (slices_Grow_Sint64_int64 N x0 x1) fun r => some ([⟨(.sl 2 (.int .i64)), (.own .imm), r⟩], []) := by
  show _ = bindF _ _
  conv => rhs; simp only [slices_Grow_Sint64_int64, bindF_ifB, bindF_bindO, bindF_pure, bindF_none, bindF_onSum]
  kernel_rfl
theorem slices_Grow_Sint64_int64.ok (N : Nat) : ConOk Try.prog 65 [.one, .one] (slices_Grow_Sint64_int64.con N) := by
  refine conOk_mk (g := slices_Grow_Sint64_int64.cfg N) (N := N) (res := [(false, (.own .imm))]) tys_ok (slices_Grow_Sint64_int64.cons N) mixed Try.func65 (slices_Grow_Sint64_int64.ls N) rfl rfl ?_
  intro ds R k y h
  cases ds with
  | nil => exact none_some h
  | cons d0 ds =>
  cases ds with
  | nil => exact none_some h
  | cons d1 ds =>
  cases ds with
  | cons _ _ => exact none_some h
  | nil =>
  have h0 : (castDm (.sl 2 (.int .i64)) .imm d0 fun x0 => castDm (.int .i64) .imm d1 fun x1 => bindO (slices_Grow_Sint64_int64 N x0 x1) fun r => k [⟨(.sl 2 (.int .i64)), (.own .imm), r⟩] []) = some y := h
  clear h
  obtain ⟨x0, rfl, h1⟩ := castDm_eq h0
  obtain ⟨x1, rfl, h2⟩ := castDm_eq h1
  exact con_fin (slices_Grow_Sint64_int64.b N x0 x1) h2
theorem slices_Grow_Sint64_int64.det (N : Nat) : ConDet (slices_Grow_Sint64_int64.con N) := by
  intro ds R k y h
  cases ds with
  | nil => exact none_some h
  | cons d0 ds =>
  cases ds with
  | nil => exact none_some h
  | cons d1 ds =>
  cases ds with
  | cons _ _ => exact none_some h
  | nil =>
  have h0 : (castDm (.sl 2 (.int .i64)) .imm d0 fun x0 => castDm (.int .i64) .imm d1 fun x1 => bindO (slices_Grow_Sint64_int64 N x0 x1) fun r => k [⟨(.sl 2 (.int .i64)), (.own .imm), r⟩] []) = some y := h
  clear h
  obtain ⟨x0, rfl, h1⟩ := castDm_eq h0
  obtain ⟨x1, rfl, h2⟩ := castDm_eq h1
  obtain ⟨r, e, h⟩ := bindO_some h2
  refine ⟨_, _, h, fun k' => ?_⟩
  show (castDm (.sl 2 (.int .i64)) .imm (⟨(.sl 2 (.int .i64)), .imm, x0⟩ : Dy) fun x0 => castDm (.int .i64) .imm (⟨(.int .i64), .imm, x1⟩ : Dy) fun x1 => bindO (slices_Grow_Sint64_int64 N x0 x1) fun r => k' [⟨(.sl 2 (.int .i64)), (.own .imm), r⟩] []) = _
  simp only [castDm_self]
  rw [e]
  rfl
def slices_Concat_Sint64_int64.sk3 : Skel := ⟨[.pv (.sl 22 (.sl 2 (.int .i64))), .dead, .dead, .pv (.int .i64), .dead, .dead, .dead, .dead, .dead, .pv (.sl 22 (.sl 2 (.int .i64))), .pv (.int .i64), .pv (.int .i64), .dead, .dead, .dead, .dead, .dead, .dead, .dead, .dead, .dead, .dead, .dead, .dead, .dead, .dead, .dead, .dead, .dead, .dead, .dead, .dead, .dead, .dead, .dead, .dead], []⟩
def slices_Concat_Sint64_int64.xs3 : List XS := [⟨.exit 0, [0, 3], ⟨[.pv (.sl 22 (.sl 2 (.int .i64))), .dead, .dead, .pv (.int .i64), .dead, .dead, .dead, .dead, .dead, .dead, .dead, .dead, .dead, .dead, .dead, .dead, .dead, .dead, .dead, .dead, .dead, .dead, .dead, .dead, .dead, .dead, .dead, .dead, .dead, .dead, .dead, .dead, .dead, .dead, .dead, .dead], []⟩⟩]
def slices_Concat_Sint64_int64.sk11 : Skel := ⟨[.dead, .dead, .dead, .dead, .dead, .dead, .ov 50 [], .dead, .dead, .dead, .dead, .dead, .dead, .dead, .dead, .dead, .dead, .dead, .dead, .dead, .dead, .dead, .dead, .dead, .dead, .pv (.sl 22 (.sl 2 (.int .i64))), .pv (.int .i64), .pv (.int .i64), .dead, .dead, .dead, .dead, .dead, .dead, .dead, .dead], [⟨50, (.sl 2 (.int .i64)), (.own .imm), false, false⟩]⟩
def slices_Concat_Sint64_int64.xs11 : List XS := [⟨.exit 2, [6], ⟨[.dead, .dead, .dead, .dead, .dead, .dead, .ov 50 [], .dead, .dead, .dead, .dead, .dead, .dead, .dead, .dead, .dead, .dead, .dead, .dead, .dead, .dead, .dead, .dead, .dead, .dead, .dead, .dead, .dead, .dead, .dead, .dead, .dead, .dead, .dead, .dead, .dead], [⟨50, (.sl 2 (.int .i64)), (.own .imm), false, false⟩]⟩⟩]
noncomputable def slices_Concat_Sint64_int64.con (N : Nat) : Con := { modes := [.v], ptrs := [false], fn := fun ds k => match ds with | [d0] => castDm (.sl 22 (.sl 2 (.int .i64))) .imm d0 fun x0 => bindO (slices_Concat_Sint64_int64 N x0) fun r => k [⟨(.sl 2 (.int .i64)), (.own .imm), r⟩] [] | _ => none }
noncomputable def slices_Concat_Sint64_int64.cfg (N : Nat) : Cfg := { ty := tys, keep := [24], flt := [], elm := [(22, (.own .imm)), (23, (.pr (.own .imm) .imm)), (24, (.pr (.own .imm) .imm)), (25, (.own (.own .imm))), (28, (.pr (.own .imm) .imm)), (29, (.pr (.pr (.own .imm) .imm) (.pr (.own .imm) .imm))), (30, (.pr (.pr (.own .imm) .imm) (.pr (.own .imm) .imm)))], live := [(11, [6, 25, 26, 27]), (3, [0, 3, 9, 10, 11])], ord := [], con := [((65, [.one, .one]), slices_Grow_Sint64_int64.con N)], loops := [(3, loopCon N slices_Concat_Sint64_int64.sk3 slices_Concat_Sint64_int64.xs3 (fun {R} => slices_Concat_Sint64_int64.l3 (R := R) N)), (11, loopCon N slices_Concat_Sint64_int64.sk11 slices_Concat_Sint64_int64.xs11 (fun {R} => slices_Concat_Sint64_int64.l11 (R := R) N))], joins := [] }
theorem slices_Concat_Sint64_int64.cons (N : Nat) : ConsOk Try.prog (slices_Concat_Sint64_int64.cfg N).con := (consOk_cons (hb65) (slices_Grow_Sint64_int64.ok N) (slices_Grow_Sint64_int64.det N) consOk_nil)
theorem slices_Concat_Sint64_int64.h11 {R : Type} (N : Nat) (d : slices_Concat_Sint64_int64.sk11.D) (kn : slices_Concat_Sint64_int64.sk11.D → Option R) (kx : XD slices_Concat_Sint64_int64.xs11 → Option R) : roundK (slices_Concat_Sint64_int64.cfg N) N (nthLoop (fnBody Try.f56) 1) slices_Concat_Sint64_int64.sk11 slices_Concat_Sint64_int64.xs11 d kn kx = slices_Concat_Sint64_int64.l11 N d kn kx := by kernel_rfl
theorem slices_Concat_Sint64_int64.i11 (N : Nat) : LoopsOk Try.prog (slices_Concat_Sint64_int64.cfg N) (nthLoop (fnBody Try.f56) 1) := loopsL (l := []) (by kernel_rfl) trivial
theorem slices_Concat_Sint64_int64.o11 (N : Nat) : LoopOk Try.prog (nthLoop (fnBody Try.f56) 1) (loopCon N slices_Concat_Sint64_int64.sk11 slices_Concat_Sint64_int64.xs11 (fun {R} => slices_Concat_Sint64_int64.l11 (R := R) N)) := loop_ok (g := slices_Concat_Sint64_int64.cfg N) tys_ok (slices_Concat_Sint64_int64.cons N) mixed (slices_Concat_Sint64_int64.i11 N) (fun d kn kx => slices_Concat_Sint64_int64.h11 N d kn kx)
theorem slices_Concat_Sint64_int64.h3 {R : Type} (N : Nat) (d : slices_Concat_Sint64_int64.sk3.D) (kn : slices_Concat_Sint64_int64.sk3.D → Option R) (kx : XD slices_Concat_Sint64_int64.xs3 → Option R) : roundK (slices_Concat_Sint64_int64.cfg N) N (nthLoop (fnBody Try.f56) 0) slices_Concat_Sint64_int64.sk3 slices_Concat_Sint64_int64.xs3 d kn kx = slices_Concat_Sint64_int64.l3 N d kn kx := by kernel_rfl
theorem slices_Concat_Sint64_int64.i3 (N : Nat) : LoopsOk Try.prog (slices_Concat_Sint64_int64.cfg N) (nthLoop (fnBody Try.f56) 0) := loopsL (l := []) (by kernel_rfl) trivial
theorem slices_Concat_Sint64_int64.o3 (N : Nat) : LoopOk Try.prog (nthLoop (fnBody Try.f56) 0) (loopCon N slices_Concat_Sint64_int64.sk3 slices_Concat_Sint64_int64.xs3 (fun {R} => slices_Concat_Sint64_int64.l3 (R := R) N)) := loop_ok (g := slices_Concat_Sint64_int64.cfg N) tys_ok (slices_Concat_Sint64_int64.cons N) mixed (slices_Concat_Sint64_int64.i3 N) (fun d kn kx => slices_Concat_Sint64_int64.h3 N d kn kx)
theorem slices_Concat_Sint64_int64.ls (N : Nat) : LoopsOk Try.prog (slices_Concat_Sint64_int64.cfg N) (fnBody Try.f56) := loopsL (l := [nthLoop (fnBody Try.f56) 0, nthLoop (fnBody Try.f56) 1]) (by kernel_rfl) ⟨loopOne (L0 := loopCon N slices_Concat_Sint64_int64.sk3 slices_Concat_Sint64_int64.xs3 (fun {R} => slices_Concat_Sint64_int64.l3 (R := R) N)) (id := 3) (by kernel_rfl) (by kernel_rfl) (slices_Concat_Sint64_int64.o3 N), ⟨loopOne (L0 := loopCon N slices_Concat_Sint64_int64.sk11 slices_Concat_Sint64_int64.xs11 (fun {R} => slices_Concat_Sint64_int64.l11 (R := R) N)) (id := 11) (by kernel_rfl) (by kernel_rfl) (slices_Concat_Sint64_int64.o11 N), trivial⟩⟩
theorem slices_Concat_Sint64_int64.q11 {R R' : Type} {N n : Nat} {d} {k} {g : R → Option R'} : bindF (loopP (slices_Concat_Sint64_int64.l11 N) n d k) g = loopP (slices_Concat_Sint64_int64.l11 N) n d fun e => bindF (k e) g := bindF_loopP (fun d kn kx => by simp only [slices_Concat_Sint64_int64.l11, bindF_ifB, bindF_bindO, bindF_pure, bindF_none, bindF_onSum]) n d k
theorem slices_Concat_Sint64_int64.q3 {R R' : Type} {N n : Nat} {d} {k} {g : R → Option R'} : bindF (loopP (slices_Concat_Sint64_int64.l3 N) n d k) g = loopP (slices_Concat_Sint64_int64.l3 N) n d fun e => bindF (k e) g := bindF_loopP (fun d kn kx => by simp only [slices_Concat_Sint64_int64.l3, bindF_ifB, bindF_bindO, bindF_pure, bindF_none, bindF_onSum]) n d k
theorem slices_Concat_Sint64_int64.b (N : Nat) (x0 : den (.sl 22 (.sl 2 (.int .i64)))) : body (slices_Concat_Sint64_int64.cfg N) N Try.f56 [.one] [.v] [(false, (.own .imm))] [⟨(.sl 22 (.sl 2 (.int .i64))), .imm, x0⟩] (fun r i => some (r, i)) = bindO (slices_Concat_Sint64_int64 N x0) fun r => some ([⟨(.sl 2 (.int .i64)), (.own .imm), r⟩], []) := by
  show _ = bindF _ _
  conv => rhs; simp only [slices_Concat_Sint64_int64, bindF_ifB, bindF_bindO, bindF_pure, bindF_none, bindF_onSum, slices_Concat_Sint64_int64.q3, slices_Concat_Sint64_int64.q11]
  kernel_rfl
theorem slices_Concat_Sint64_int64.ok (N : Nat) : ConOk Try.prog 56 [.one] (slices_Concat_Sint64_int64.con N) := by
  refine conOk_mk (g := slices_Concat_Sint64_int64.cfg N) (N := N) (res := [(false, (.own .imm))]) tys_ok (slices_Concat_Sint64_int64.cons N) mixed Try.func56 (slices_Concat_Sint64_int64.ls N) rfl rfl ?_
  intro ds R k y h
  cases ds with
  | nil => exact none_some h
  | cons d0 ds =>
  cases ds with
  | cons _ _ => exact none_some h
  | nil =>
  have h0 : (castDm (.sl 22 (.sl 2 (.int .i64))) .imm d0 fun x0 => bindO (slices_Concat_Sint64_int64 N x0) fun r => k [⟨(.sl 2 (.int .i64)), (.own .imm), r⟩] []) = some y := h
  clear h
  obtain ⟨x0, rfl, h1⟩ := castDm_eq h0
  exact con_fin (slices_Concat_Sint64_int64.b N x0) h1
theorem slices_Concat_Sint64_int64.det (N : Nat) : ConDet (slices_Concat_Sint64_int64.con N) := by
  intro ds R k y h
  cases ds with
  | nil => exact none_some h
  | cons d0 ds =>
  cases ds with
  | cons _ _ => exact none_some h
  | nil =>
  have h0 : (castDm (.sl 22 (.sl 2 (.int .i64))) .imm d0 fun x0 => bindO (slices_Concat_Sint64_int64 N x0) fun r => k [⟨(.sl 2 (.int .i64)), (.own .imm), r⟩] []) = some y := h
  clear h
  obtain ⟨x0, rfl, h1⟩ := castDm_eq h0
  obtain ⟨r, e, h⟩ := bindO_some h1
  refine ⟨_, _, h, fun k' => ?_⟩
  show (castDm (.sl 22 (.sl 2 (.int .i64))) .imm (⟨(.sl 22 (.sl 2 (.int .i64))), .imm, x0⟩ : Dy) fun x0 => bindO (slices_Concat_Sint64_int64 N x0) fun r => k' [⟨(.sl 2 (.int .i64)), (.own .imm), r⟩] []) = _
  simp only [castDm_self]
  rw [e]
  rfl
noncomputable def impl_replace_c1.con (N : Nat) : Con := { modes := [.v, .rd, .rd, .rd], ptrs := [false], fn := fun ds k => match ds with | [d0, d1, d2, d3] => castDm (.int .i64) .imm d0 fun x0 => castDm (.int .i64) .imm d1 fun x1 => castDm (.int .i64) .imm d2 fun x2 => castDm (.int .i64) .imm d3 fun x3 => bindO (impl_replace_c1 N x0 x1 x2 x3) fun r => k [⟨(.int .i64), .imm, r⟩] [] | _ => none }
noncomputable def impl_replace_c1.cfg (N : Nat) : Cfg := { ty := tys, keep := [], flt := [], elm := [(22, (.own .imm)), (23, (.pr (.own .imm) .imm)), (24, (.pr (.own .imm) .imm)), (25, (.own (.own .imm))), (28, (.pr (.own .imm) .imm)), (29, (.pr (.pr (.own .imm) .imm) (.pr (.own .imm) .imm))), (30, (.pr (.pr (.own .imm) .imm) (.pr (.own .imm) .imm)))], live := [], ord := [], con := [], loops := [], joins := [] }
theorem impl_replace_c1.cons (N : Nat) : ConsOk Try.prog (impl_replace_c1.cfg N).con := consOk_nil
theorem impl_replace_c1.ls (N : Nat) : LoopsOk Try.prog (impl_replace_c1.cfg N) (fnBody Try.f55) := loopsL (l := []) (by kernel_rfl) trivial
theorem impl_replace_c1.b (N : Nat) (x0 : den (.int .i64)) (x1 : den (.int .i64)) (x2 : den (.int .i64)) (x3 : den (.int .i64)) : body (impl_replace_c1.cfg N) N Try.f55 [.one] [.v, .rd, .rd, .rd] [(false, .imm)] [⟨(.int .i64), .imm, x0⟩, ⟨(.int .i64), .imm, x1⟩, ⟨(.int .i64), .imm, x2⟩, ⟨(.int .i64), .imm, x3⟩] (fun r i => some (r, i)) = bindO (impl_replace_c1 N x0 x1 x2 x3) fun r => some ([⟨(.int .i64), .imm, r⟩], []) := by
  show _ = bindF _ _
  conv => rhs; simp only [impl_replace_c1, bindF_ifB, bindF_bindO, bindF_pure, bindF_none, bindF_onSum]
  kernel_rfl
theorem impl_replace_c1.ok (N : Nat) : ConOk Try.prog 55 [.one] (impl_replace_c1.con N) := by
  refine conOk_mk (g := impl_replace_c1.cfg N) (N := N) (res := [(false, .imm)]) tys_ok (impl_replace_c1.cons N) mixed Try.func55 (impl_replace_c1.ls N) rfl rfl ?_
  intro ds R k y h
  cases ds with
  | nil => exact none_some h
  | cons d0 ds =>
  cases ds with
  | nil => exact none_some h
  | cons d1 ds =>
  cases ds with
  | nil => exact none_some h
  | cons d2 ds =>
  cases ds with
  | nil => exact none_some h
  | cons d3 ds =>
  cases ds with
  | cons _ _ => exact none_some h
  | nil =>
  have h0 : (castDm (.int .i64) .imm d0 fun x0 => castDm (.int .i64) .imm d1 fun x1 => castDm (.int .i64) .imm d2 fun x2 => castDm (.int .i64) .imm d3 fun x3 => bindO (impl_replace_c1 N x0 x1 x2 x3) fun r => k [⟨(.int .i64), .imm, r⟩] []) = some y := h
  clear h
  obtain ⟨x0, rfl, h1⟩ := castDm_eq h0
  obtain ⟨x1, rfl, h2⟩ := castDm_eq h1
  obtain ⟨x2, rfl, h3⟩ := castDm_eq h2
  obtain ⟨x3, rfl, h4⟩ := castDm_eq h3
  exact con_fin (impl_replace_c1.b N x0 x1 x2 x3) h4
theorem impl_replace_c1.det (N : Nat) : ConDet (impl_replace_c1.con N) := by
  intro ds R k y h
  cases ds with
  | nil => exact none_some h
  | cons d0 ds =>
  cases ds with
  | nil => exact none_some h
  | cons d1 ds =>
  cases ds with
  | nil => exact none_some h
  | cons d2 ds =>
  cases ds with
  | nil => exact none_some h
  | cons d3 ds =>
  cases ds with
  | cons _ _ => exact none_some h
  | nil =>
  have h0 : (castDm (.int .i64) .imm d0 fun x0 => castDm (.int .i64) .imm d1 fun x1 => castDm (.int .i64) .imm d2 fun x2 => castDm (.int .i64) .imm d3 fun x3 => bindO (impl_replace_c1 N x0 x1 x2 x3) fun r => k [⟨(.int .i64), .imm, r⟩] []) = some y := h
  clear h
  obtain ⟨x0, rfl, h1⟩ := castDm_eq h0
  obtain ⟨x1, rfl, h2⟩ := castDm_eq h1
  obtain ⟨x2, rfl, h3⟩ := castDm_eq h2
  obtain ⟨x3, rfl, h4⟩ := castDm_eq h3
  obtain ⟨r, e, h⟩ := bindO_some h4
  refine ⟨_, _, h, fun k' => ?_⟩
  show (castDm (.int .i64) .imm (⟨(.int .i64), .imm, x0⟩ : Dy) fun x0 => castDm (.int .i64) .imm (⟨(.int .i64), .imm, x1⟩ : Dy) fun x1 => castDm (.int .i64) .imm (⟨(.int .i64), .imm, x2⟩ : Dy) fun x2 => castDm (.int .i64) .imm (⟨(.int .i64), .imm, x3⟩ : Dy) fun x3 => bindO (impl_replace_c1 N x0 x1 x2 x3) fun r => k' [⟨(.int .i64), .imm, r⟩] []) = _
  simp only [castDm_self]
  rw [e]
  rfl
noncomputable def impl_replace.con (N : Nat) : Con := { modes := [.v, .v, .v, .v], ptrs := [false], fn := fun ds k => match ds with | [d0, d1, d2, d3] => castDm (.pair (.sl 2 (.int .i64)) (.pair (.int .i64) (.pair (.int .i64) .unit))) .imm d0 fun x0 => castDm (.int .i64) .imm d1 fun x1 => castDm (.int .i64) .imm d2 fun x2 => castDm (.sl 2 (.int .i64)) .imm d3 fun x3 => bindO (impl_replace N x0 x1 x2 x3) fun r => k [⟨(.pair (.pair (.sl 2 (.int .i64)) (.pair (.int .i64) (.pair (.int .i64) .unit))) (.pair (.sl 2 (.int .i64)) (.pair (.int .i64) .unit))), (.pr (.pr (.own .imm) .imm) (.pr (.own .imm) .imm)), r⟩] [] | _ => none }
noncomputable def impl_replace.cfg (N : Nat) : Cfg := { ty := tys, keep := [23, 28, 35, 51, 55, 59, 72, 81], flt := [], elm := [(22, (.own .imm)), (23, (.pr (.own .imm) .imm)), (24, (.pr (.own .imm) .imm)), (25, (.own (.own .imm))), (28, (.pr (.own .imm) .imm)), (29, (.pr (.pr (.own .imm) .imm) (.pr (.own .imm) .imm))), (30, (.pr (.pr (.own .imm) .imm) (.pr (.own .imm) .imm)))], live := [], ord := [(1, [0, 1, 2, 3, 4, 5, 6, 7, 8, 9, 10, 11, 12, 13]), (3, [6, 0, 2, 3, 4, 1, 5, 7]), (4, [0, 1, 3, 2, 4, 5]), (7, [20, 0, 1, 2, 3, 4, 5, 6, 7, 8, 11, 12, 13, 15, 16, 17, 9, 10, 14, 18, 19, 21]), (9, [0, 1, 2, 3, 4, 5]), (10, [0, 1, 2, 3, 4, 5, 6, 7, 8])], con := [((48, [.one]), impl_size_Sint64.con N), ((56, [.one]), slices_Concat_Sint64_int64.con N), ((55, [.one]), impl_replace_c1.con N), ((31, [.one]), slices_Clone_Sint64_int64.con N)], loops := [], joins := [] }
theorem impl_replace.cons (N : Nat) : ConsOk Try.prog (impl_replace.cfg N).con := (consOk_cons (hb48) (impl_size_Sint64.ok N) (impl_size_Sint64.det N) (consOk_cons (hb56) (slices_Concat_Sint64_int64.ok N) (slices_Concat_Sint64_int64.det N) (consOk_cons (hb55) (impl_replace_c1.ok N) (impl_replace_c1.det N) (consOk_cons (hb31) (slices_Clone_Sint64_int64.ok N) (slices_Clone_Sint64_int64.det N) consOk_nil))))
theorem impl_replace.ls (N : Nat) : LoopsOk Try.prog (impl_replace.cfg N) (fnBody Try.f33) := loopsL (l := []) (by kernel_rfl) trivial
theorem impl_replace.b (N : Nat) (x0 : den (.pair (.sl 2 (.int .i64)) (.pair (.int .i64) (.pair (.int .i64) .unit)))) (x1 : den (.int .i64)) (x2 : den (.int .i64)) (x3 : den (.sl 2 (.int .i64))) : body (impl_replace.cfg N) N Try.f33 [.one, .one, .one, .one] [.v, .v, .v, .v] [(false, (.pr (.pr (.own .imm) .imm) (.pr (.own .imm) .imm)))] [⟨(.pair (.sl 2 (.int .i64)) (.pair (.int .i64) (.pair (.int .i64) .unit))), .imm, x0⟩, ⟨(.int .i64), .imm, x1⟩, ⟨(.int .i64), .imm, x2⟩, ⟨(.sl 2 (.int .i64)), .imm, x3⟩] (fun r i => some (r, i)) = bindO (impl_replace N x0 x1 x2 x3) fun r => some ([⟨(.pair (.pair (.sl 2 (.int .i64)) (.pair (.int .i64) (.pair (.int .i64) .unit))) (.pair (.sl 2 (.int .i64)) (.pair (.int .i64) .unit))), (.pr (.pr (.own .imm) .imm) (.pr (.own .imm) .imm)), r⟩], []) := by
  show _ = bindF _ _
  conv => rhs; simp only [impl_replace, bindF_ifB, bindF_bindO, bindF_pure, bindF_none, bindF_onSum]
  kernel_rfl
theorem impl_replace.ok (N : Nat) : ConOk Try.prog 33 [.one, .one, .one, .one] (impl_replace.con N) := by
  refine conOk_mk (g := impl_replace.cfg N) (N := N) (res := [(false, (.pr (.pr (.own .imm) .imm) (.pr (.own .imm) .imm)))]) tys_ok (impl_replace.cons N) mixed Try.func33 (impl_replace.ls N) rfl rfl ?_
  intro ds R k y h
  cases ds with
  | nil => exact none_some h
  | cons d0 ds =>
  cases ds with
  | nil => exact none_some h
  | cons d1 ds =>
  cases ds with
  | nil => exact none_some h
  | cons d2 ds =>
  cases ds with
  | nil => exact none_some h
  | cons d3 ds =>
  cases ds with
  | cons _ _ => exact none_some h
  | nil =>
  have h0 : (castDm (.pair (.sl 2 (.int .i64)) (.pair (.int .i64) (.pair (.int .i64) .unit))) .imm d0 fun x0 => castDm (.int .i64) .imm d1 fun x1 => castDm (.int .i64) .imm d2 fun x2 => castDm (.sl 2 (.int .i64)) .imm d3 fun x3 => bindO (impl_replace N x0 x1 x2 x3) fun r => k [⟨(.pair (.pair (.sl 2 (.int .i64)) (.pair (.int .i64) (.pair (.int .i64) .unit))) (.pair (.sl 2 (.int .i64)) (.pair (.int .i64) .unit))), (.pr (.pr (.own .imm) .imm) (.pr (.own .imm) .imm)), r⟩] []) = some y := h
  clear h
  obtain ⟨x0, rfl, h1⟩ := castDm_eq h0
  obtain ⟨x1, rfl, h2⟩ := castDm_eq h1
  obtain ⟨x2, rfl, h3⟩ := castDm_eq h2
  obtain ⟨x3, rfl, h4⟩ := castDm_eq h3
  exact con_fin (impl_replace.b N x0 x1 x2 x3) h4
theorem impl_replace.det (N : Nat) : ConDet (impl_replace.con N) := by
  intro ds R k y h
  cases ds with
  | nil => exact none_some h
  | cons d0 ds =>
  cases ds with
  | nil => exact none_some h
  | cons d1 ds =>
  cases ds with
  | nil => exact none_some h
  | cons d2 ds =>
  cases ds with
  | nil => exact none_some h
  | cons d3 ds =>
  cases ds with
  | cons _ _ => exact none_some h
  | nil =>
  have h0 : (castDm (.pair (.sl 2 (.int .i64)) (.pair (.int .i64) (.pair (.int .i64) .unit))) .imm d0 fun x0 => castDm (.int .i64) .imm d1 fun x1 => castDm (.int .i64) .imm d2 fun x2 => castDm (.sl 2 (.int .i64)) .imm d3 fun x3 => bindO (impl_replace N x0 x1 x2 x3) fun r => k [⟨(.pair (.pair (.sl 2 (.int .i64)) (.pair (.int .i64) (.pair (.int .i64) .unit))) (.pair (.sl 2 (.int .i64)) (.pair (.int .i64) .unit))), (.pr (.pr (.own .imm) .imm) (.pr (.own .imm) .imm)), r⟩] []) = some y := h
  clear h
  obtain ⟨x0, rfl, h1⟩ := castDm_eq h0
  obtain ⟨x1, rfl, h2⟩ := castDm_eq h1
  obtain ⟨x2, rfl, h3⟩ := castDm_eq h2
  obtain ⟨x3, rfl, h4⟩ := castDm_eq h3
  obtain ⟨r, e, h⟩ := bindO_some h4
  refine ⟨_, _, h, fun k' => ?_⟩
  show (castDm (.pair (.sl 2 (.int .i64)) (.pair (.int .i64) (.pair (.int .i64) .unit))) .imm (⟨(.pair (.sl 2 (.int .i64)) (.pair (.int .i64) (.pair (.int .i64) .unit))), .imm, x0⟩ : Dy) fun x0 => castDm (.int .i64) .imm (⟨(.int .i64), .imm, x1⟩ : Dy) fun x1 => castDm (.int .i64) .imm (⟨(.int .i64), .imm, x2⟩ : Dy) fun x2 => castDm (.sl 2 (.int .i64)) .imm (⟨(.sl 2 (.int .i64)), .imm, x3⟩ : Dy) fun x3 => bindO (impl_replace N x0 x1 x2 x3) fun r => k' [⟨(.pair (.pair (.sl 2 (.int .i64)) (.pair (.int .i64) (.pair (.int .i64) .unit))) (.pair (.sl 2 (.int .i64)) (.pair (.int .i64) .unit))), (.pr (.pr (.own .imm) .imm) (.pr (.own .imm) .imm)), r⟩] []) = _
  simp only [castDm_self]
  rw [e]
  rfl
noncomputable def impl_CompPut.con (N : Nat) : Con := { modes := [.v, .v], ptrs := [false], fn := fun ds k => match ds with | [d0, d1] => castDm (.pair (.sl 2 (.int .i64)) (.pair (.int .i64) (.pair (.int .i64) .unit))) .imm d0 fun x0 => castDm (.sl 22 (.sl 2 (.int .i64))) .imm d1 fun x1 => bindO (impl_CompPut N x0 x1) fun r => k [⟨(.pair (.pair (.sl 2 (.int .i64)) (.pair (.int .i64) (.pair (.int .i64) .unit))) (.pair (.sl 2 (.int .i64)) (.pair (.int .i64) .unit))), (.pr (.pr (.own .imm) .imm) (.pr (.own .imm) .imm)), r⟩] [] | _ => none }
noncomputable def impl_CompPut.cfg (N : Nat) : Cfg := { ty := tys, keep := [12, 16, 20, 24, 28, 37, 41, 54], flt := [2], elm := [(22, (.own .imm)), (23, (.pr (.own .imm) .imm)), (24, (.pr (.own .imm) .imm)), (25, (.own (.own .imm))), (28, (.pr (.own .imm) .imm)), (29, (.pr (.pr (.own .imm) .imm) (.pr (.own .imm) .imm))), (30, (.pr (.pr (.own .imm) .imm) (.pr (.own .imm) .imm)))], live := [], ord := [], con := [((26, [.one]), impl_isMany.con N), ((27, [.one]), impl_BufRight.con N), ((28, [.one]), impl_CandsRight.con N), ((29, [.one]), impl_Buf_ahead.con N), ((30, [.one, .one]), impl_matches.con N), ((32, [.one, .one]), impl_common.con N), ((31, [.one]), slices_Clone_Sint64_int64.con N), ((33, [.one, .one, .one, .one]), impl_replace.con N)], loops := [], joins := [] }
theorem impl_CompPut.cons (N : Nat) : ConsOk Try.prog (impl_CompPut.cfg N).con := (consOk_cons (hb26) (impl_isMany.ok N) (impl_isMany.det N) (consOk_cons (hb27) (impl_BufRight.ok N) (impl_BufRight.det N) (consOk_cons (hb28) (impl_CandsRight.ok N) (impl_CandsRight.det N) (consOk_cons (hb29) (impl_Buf_ahead.ok N) (impl_Buf_ahead.det N) (consOk_cons (hb30) (impl_matches.ok N) (impl_matches.det N) (consOk_cons (hb32) (impl_common.ok N) (impl_common.det N) (consOk_cons (hb31) (slices_Clone_Sint64_int64.ok N) (slices_Clone_Sint64_int64.det N) (consOk_cons (hb33) (impl_replace.ok N) (impl_replace.det N) consOk_nil))))))))
theorem impl_CompPut.ls (N : Nat) : LoopsOk Try.prog (impl_CompPut.cfg N) (fnBody Try.f9) := loopsL (l := []) (by kernel_rfl) trivial
theorem impl_CompPut.b (N : Nat) (x0 : den (.pair (.sl 2 (.int .i64)) (.pair (.int .i64) (.pair (.int .i64) .unit)))) (x1 : den (.sl 22 (.sl 2 (.int .i64)))) : body (impl_CompPut.cfg N) N Try.f9 [.one, .one] [.v, .v] [(false, (.pr (.pr (.own .imm) .imm) (.pr (.own .imm) .imm)))] [⟨(.pair (.sl 2 (.int .i64)) (.pair (.int .i64) (.pair (.int .i64) .unit))), .imm, x0⟩, ⟨(.sl 22 (.sl 2 (.int .i64))), .imm, x1⟩] (fun r i => some (r, i)) = bindO (impl_CompPut N x0 x1) fun r => some ([⟨(.pair (.pair (.sl 2 (.int .i64)) (.pair (.int .i64) (.pair (.int .i64) .unit))) (.pair (.sl 2 (.int .i64)) (.pair (.int .i64) .unit))), (.pr (.pr (.own .imm) .imm) (.pr (.own .imm) .imm)), r⟩], []) := by
  show _ = bindF _ _
  conv => rhs; simp only [impl_CompPut, bindF_ifB, bindF_bindO, bindF_pure, bindF_none, bindF_onSum]
  kernel_rfl
theorem impl_CompPut.ok (N : Nat) : ConOk Try.prog 9 [.one, .one] (impl_CompPut.con N) := by
  refine conOk_mk (g := impl_CompPut.cfg N) (N := N) (res := [(false, (.pr (.pr (.own .imm) .imm) (.pr (.own .imm) .imm)))]) tys_ok (impl_CompPut.cons N) mixed Try.func9 (impl_CompPut.ls N) rfl rfl ?_
  intro ds R k y h
  cases ds with
  | nil => exact none_some h
  | cons d0 ds =>
  cases ds with
  | nil => exact none_some h
  | cons d1 ds =>
  cases ds with
  | cons _ _ => exact none_some h
  | nil =>
  have h0 : (castDm (.pair (.sl 2 (.int .i64)) (.pair (.int .i64) (.pair (.int .i64) .unit))) .imm d0 fun x0 => castDm (.sl 22 (.sl 2 (.int .i64))) .imm d1 fun x1 => bindO (impl_CompPut N x0 x1) fun r => k [⟨(.pair (.pair (.sl 2 (.int .i64)) (.pair (.int .i64) (.pair (.int .i64) .unit))) (.pair (.sl 2 (.int .i64)) (.pair (.int .i64) .unit))), (.pr (.pr (.own .imm) .imm) (.pr (.own .imm) .imm)), r⟩] []) = some y := h
  clear h
  obtain ⟨x0, rfl, h1⟩ := castDm_eq h0
  obtain ⟨x1, rfl, h2⟩ := castDm_eq h1
  exact con_fin (impl_CompPut.b N x0 x1) h2
theorem impl_CompPut.det (N : Nat) : ConDet (impl_CompPut.con N) := by
  intro ds R k y h
  cases ds with
  | nil => exact none_some h
  | cons d0 ds =>
  cases ds with
  | nil => exact none_some h
  | cons d1 ds =>
  cases ds with
  | cons _ _ => exact none_some h
  | nil =>
  have h0 : (castDm (.pair (.sl 2 (.int .i64)) (.pair (.int .i64) (.pair (.int .i64) .unit))) .imm d0 fun x0 => castDm (.sl 22 (.sl 2 (.int .i64))) .imm d1 fun x1 => bindO (impl_CompPut N x0 x1) fun r => k [⟨(.pair (.pair (.sl 2 (.int .i64)) (.pair (.int .i64) (.pair (.int .i64) .unit))) (.pair (.sl 2 (.int .i64)) (.pair (.int .i64) .unit))), (.pr (.pr (.own .imm) .imm) (.pr (.own .imm) .imm)), r⟩] []) = some y := h
  clear h
  obtain ⟨x0, rfl, h1⟩ := castDm_eq h0
  obtain ⟨x1, rfl, h2⟩ := castDm_eq h1
  obtain ⟨r, e, h⟩ := bindO_some h2
  refine ⟨_, _, h, fun k' => ?_⟩
  show (castDm (.pair (.sl 2 (.int .i64)) (.pair (.int .i64) (.pair (.int .i64) .unit))) .imm (⟨(.pair (.sl 2 (.int .i64)) (.pair (.int .i64) (.pair (.int .i64) .unit))), .imm, x0⟩ : Dy) fun x0 => castDm (.sl 22 (.sl 2 (.int .i64))) .imm (⟨(.sl 22 (.sl 2 (.int .i64))), .imm, x1⟩ : Dy) fun x1 => bindO (impl_CompPut N x0 x1) fun r => k' [⟨(.pair (.pair (.sl 2 (.int .i64)) (.pair (.int .i64) (.pair (.int .i64) .unit))) (.pair (.sl 2 (.int .i64)) (.pair (.int .i64) .unit))), (.pr (.pr (.own .imm) .imm) (.pr (.own .imm) .imm)), r⟩] []) = _
  simp only [castDm_self]
  rw [e]
  rfl
def laws_eqInt64S.sk4 : Skel := ⟨[.pv (.sl 2 (.int .i64)), .pv (.sl 2 (.int .i64)), .dead, .dead, .dead, .pv (.int .i64), .dead, .dead, .dead, .dead, .dead, .dead, .dead, .dead, .dead, .dead, .dead, .dead, .dead, .dead, .dead, .dead, .dead, .dead, .dead, .dead], []⟩
def laws_eqInt64S.xs4 : List XS := [⟨.exit 0, [], ⟨[.dead, .dead, .dead, .dead, .dead, .dead, .dead, .dead, .dead, .dead, .dead, .dead, .dead, .dead, .dead, .dead, .dead, .dead, .dead, .dead, .dead, .dead, .dead, .dead, .dead, .dead], []⟩⟩, ⟨.ret, [4], ⟨[.dead, .dead, .dead, .dead, .pv .bool, .dead, .dead, .dead, .dead, .dead, .dead, .dead, .dead, .dead, .dead, .dead, .dead, .dead, .dead, .dead, .dead, .dead, .dead, .dead, .dead, .dead], []⟩⟩]
noncomputable def laws_eqInt64S.con (N : Nat) : Con := { modes := [.v, .v], ptrs := [false], fn := fun ds k => match ds with | [d0, d1] => castDm (.sl 2 (.int .i64)) .imm d0 fun x0 => castDm (.sl 2 (.int .i64)) .imm d1 fun x1 => bindO (laws_eqInt64S N x0 x1) fun r => k [⟨.bool, .imm, r⟩] [] | _ => none }
noncomputable def laws_eqInt64S.cfg (N : Nat) : Cfg := { ty := tys, keep := [], flt := [], elm := [(22, (.own .imm)), (23, (.pr (.own .imm) .imm)), (24, (.pr (.own .imm) .imm)), (25, (.own (.own .imm))), (28, (.pr (.own .imm) .imm)), (29, (.pr (.pr (.own .imm) .imm) (.pr (.own .imm) .imm))), (30, (.pr (.pr (.own .imm) .imm) (.pr (.own .imm) .imm)))], live := [(4, [0, 1, 5])], ord := [(6, [0, 1, 2, 3, 4, 5, 6, 7, 8])], con := [], loops := [(4, loopCon N laws_eqInt64S.sk4 laws_eqInt64S.xs4 (fun {R} => laws_eqInt64S.l4 (R := R) N))], joins := [] }
theorem laws_eqInt64S.cons (N : Nat) : ConsOk Try.prog (laws_eqInt64S.cfg N).con := consOk_nil
theorem laws_eqInt64S.h4 {R : Type} (N : Nat) (d : laws_eqInt64S.sk4.D) (kn : laws_eqInt64S.sk4.D → Option R) (kx : XD laws_eqInt64S.xs4 → Option R) : roundK (laws_eqInt64S.cfg N) N (nthLoop (fnBody Try.f34) 0) laws_eqInt64S.sk4 laws_eqInt64S.xs4 d kn kx = laws_eqInt64S.l4 N d kn kx := by kernel_rfl
theorem laws_eqInt64S.i4 (N : Nat) : LoopsOk Try.prog (laws_eqInt64S.cfg N) (nthLoop (fnBody Try.f34) 0) := loopsL (l := []) (by kernel_rfl) trivial
theorem laws_eqInt64S.o4 (N : Nat) : LoopOk Try.prog (nthLoop (fnBody Try.f34) 0) (loopCon N laws_eqInt64S.sk4 laws_eqInt64S.xs4 (fun {R} => laws_eqInt64S.l4 (R := R) N)) := loop_ok (g := laws_eqInt64S.cfg N) tys_ok (laws_eqInt64S.cons N) mixed (laws_eqInt64S.i4 N) (fun d kn kx => laws_eqInt64S.h4 N d kn kx)
theorem laws_eqInt64S.ls (N : Nat) : LoopsOk Try.prog (laws_eqInt64S.cfg N) (fnBody Try.f34) := loopsL (l := [nthLoop (fnBody Try.f34) 0]) (by kernel_rfl) ⟨loopOne (L0 := loopCon N laws_eqInt64S.sk4 laws_eqInt64S.xs4 (fun {R} => laws_eqInt64S.l4 (R := R) N)) (id := 4) (by kernel_rfl) (by kernel_rfl) (laws_eqInt64S.o4 N), trivial⟩
theorem laws_eqInt64S.q4 {R R' : Type} {N n : Nat} {d} {k} {g : R → Option R'} : bindF (loopP (laws_eqInt64S.l4 N) n d k) g = loopP (laws_eqInt64S.l4 N) n d fun e => bindF (k e) g := bindF_loopP (fun d kn kx => by simp only [laws_eqInt64S.l4, bindF_ifB, bindF_bindO, bindF_pure, bindF_none, bindF_onSum]) n d k
theorem laws_eqInt64S.b (N : Nat) (x0 : den (.sl 2 (.int .i64))) (x1 : den (.sl 2 (.int .i64))) : body (laws_eqInt64S.cfg N) N Try.f34 [.one, .one] [.v, .v] [(false, .imm)] [⟨(.sl 2 (.int .i64)), .imm, x0⟩, ⟨(.sl 2 (.int .i64)), .imm, x1⟩] (fun r i => some (r, i)) = bindO (laws_eqInt64S N x0 x1) fun r => some ([⟨.bool, .imm, r⟩], []) := by
  show _ = bindF _ _
  conv => rhs; simp only [laws_eqInt64S, bindF_ifB, bindF_bindO, bindF_pure, bindF_none, bindF_onSum, laws_eqInt64S.q4]
  kernel_rfl
theorem laws_eqInt64S.ok (N : Nat) : ConOk Try.prog 34 [.one, .one] (laws_eqInt64S.con N) := by
  refine conOk_mk (g := laws_eqInt64S.cfg N) (N := N) (res := [(false, .imm)]) tys_ok (laws_eqInt64S.cons N) mixed Try.func34 (laws_eqInt64S.ls N) rfl rfl ?_
  intro ds R k y h
  cases ds with
  | nil => exact none_some h
  | cons d0 ds =>
  cases ds with
  | nil => exact none_some h
  | cons d1 ds =>
  cases ds with
  | cons _ _ => exact none_some h
  | nil =>
  have h0 : (castDm (.sl 2 (.int .i64)) .imm d0 fun x0 => castDm (.sl 2 (.int .i64)) .imm d1 fun x1 => bindO (laws_eqInt64S N x0 x1) fun r => k [⟨.bool, .imm, r⟩] []) = some y := h
  clear h
  obtain ⟨x0, rfl, h1⟩ := castDm_eq h0
  obtain ⟨x1, rfl, h2⟩ := castDm_eq h1
  exact con_fin (laws_eqInt64S.b N x0 x1) h2
theorem laws_eqInt64S.det (N : Nat) : ConDet (laws_eqInt64S.con N) := by
  intro ds R k y h
  cases ds with
  | nil => exact none_some h
  | cons d0 ds =>
  cases ds with
  | nil => exact none_some h
  | cons d1 ds =>
  cases ds with
  | cons _ _ => exact none_some h
  | nil =>
  have h0 : (castDm (.sl 2 (.int .i64)) .imm d0 fun x0 => castDm (.sl 2 (.int .i64)) .imm d1 fun x1 => bindO (laws_eqInt64S N x0 x1) fun r => k [⟨.bool, .imm, r⟩] []) = some y := h
  clear h
  obtain ⟨x0, rfl, h1⟩ := castDm_eq h0
  obtain ⟨x1, rfl, h2⟩ := castDm_eq h1
  obtain ⟨r, e, h⟩ := bindO_some h2
  refine ⟨_, _, h, fun k' => ?_⟩
  show (castDm (.sl 2 (.int .i64)) .imm (⟨(.sl 2 (.int .i64)), .imm, x0⟩ : Dy) fun x0 => castDm (.sl 2 (.int .i64)) .imm (⟨(.sl 2 (.int .i64)), .imm, x1⟩ : Dy) fun x1 => bindO (laws_eqInt64S N x0 x1) fun r => k' [⟨.bool, .imm, r⟩] []) = _
  simp only [castDm_self]
  rw [e]
  rfl
noncomputable def laws_eqBuf.con (N : Nat) : Con := { modes := [.v, .v], ptrs := [false], fn := fun ds k => match ds with | [d0, d1] => castDm (.pair (.sl 2 (.int .i64)) (.pair (.int .i64) (.pair (.int .i64) .unit))) .imm d0 fun x0 => castDm (.pair (.sl 2 (.int .i64)) (.pair (.int .i64) (.pair (.int .i64) .unit))) .imm d1 fun x1 => bindO (laws_eqBuf N x0 x1) fun r => k [⟨.bool, .imm, r⟩] [] | _ => none }
noncomputable def laws_eqBuf.cfg (N : Nat) : Cfg := { ty := tys, keep := [9], flt := [], elm := [(22, (.own .imm)), (23, (.pr (.own .imm) .imm)), (24, (.pr (.own .imm) .imm)), (25, (.own (.own .imm))), (28, (.pr (.own .imm) .imm)), (29, (.pr (.pr (.own .imm) .imm) (.pr (.own .imm) .imm))), (30, (.pr (.pr (.own .imm) .imm) (.pr (.own .imm) .imm)))], live := [], ord := [], con := [((34, [.one, .one]), laws_eqInt64S.con N)], loops := [], joins := [] }
theorem laws_eqBuf.cons (N : Nat) : ConsOk Try.prog (laws_eqBuf.cfg N).con := (consOk_cons (hb34) (laws_eqInt64S.ok N) (laws_eqInt64S.det N) consOk_nil)
theorem laws_eqBuf.ls (N : Nat) : LoopsOk Try.prog (laws_eqBuf.cfg N) (fnBody Try.f11) := loopsL (l := []) (by kernel_rfl) trivial
theorem laws_eqBuf.b (N : Nat) (x0 : den (.pair (.sl 2 (.int .i64)) (.pair (.int .i64) (.pair (.int .i64) .unit)))) (x1 : den (.pair (.sl 2 (.int .i64)) (.pair (.int .i64) (.pair (.int .i64) .unit)))) : body (laws_eqBuf.cfg N) N Try.f11 [.one, .one] [.v, .v] [(false, .imm)] [⟨(.pair (.sl 2 (.int .i64)) (.pair (.int .i64) (.pair (.int .i64) .unit))), .imm, x0⟩, ⟨(.pair (.sl 2 (.int .i64)) (.pair (.int .i64) (.pair (.int .i64) .unit))), .imm, x1⟩] (fun r i => some (r, i)) = bindO (laws_eqBuf N x0 x1) fun r => some ([⟨.bool, .imm, r⟩], []) := by
  show _ = bindF _ _
  conv => rhs; simp only [laws_eqBuf, bindF_ifB, bindF_bindO, bindF_pure, bindF_none, bindF_onSum]
  kernel_rfl
theorem laws_eqBuf.ok (N : Nat) : ConOk Try.prog 11 [.one, .one] (laws_eqBuf.con N) := by
  refine conOk_mk (g := laws_eqBuf.cfg N) (N := N) (res := [(false, .imm)]) tys_ok (laws_eqBuf.cons N) mixed Try.func11 (laws_eqBuf.ls N) rfl rfl ?_
  intro ds R k y h
  cases ds with
  | nil => exact none_some h
  | cons d0 ds =>
  cases ds with
  | nil => exact none_some h
  | cons d1 ds =>
  cases ds with
  | cons _ _ => exact none_some h
  | nil =>
  have h0 : (castDm (.pair (.sl 2 (.int .i64)) (.pair (.int .i64) (.pair (.int .i64) .unit))) .imm d0 fun x0 => castDm (.pair (.sl 2 (.int .i64)) (.pair (.int .i64) (.pair (.int .i64) .unit))) .imm d1 fun x1 => bindO (laws_eqBuf N x0 x1) fun r => k [⟨.bool, .imm, r⟩] []) = some y := h
  clear h
  obtain ⟨x0, rfl, h1⟩ := castDm_eq h0
  obtain ⟨x1, rfl, h2⟩ := castDm_eq h1
  exact con_fin (laws_eqBuf.b N x0 x1) h2
theorem laws_eqBuf.det (N : Nat) : ConDet (laws_eqBuf.con N) := by
  intro ds R k y h
  cases ds with
  | nil => exact none_some h
  | cons d0 ds =>
  cases ds with
  | nil => exact none_some h
  | cons d1 ds =>
  cases ds with
  | cons _ _ => exact none_some h
  | nil =>
  have h0 : (castDm (.pair (.sl 2 (.int .i64)) (.pair (.int .i64) (.pair (.int .i64) .unit))) .imm d0 fun x0 => castDm (.pair (.sl 2 (.int .i64)) (.pair (.int .i64) (.pair (.int .i64) .unit))) .imm d1 fun x1 => bindO (laws_eqBuf N x0 x1) fun r => k [⟨.bool, .imm, r⟩] []) = some y := h
  clear h
  obtain ⟨x0, rfl, h1⟩ := castDm_eq h0
  obtain ⟨x1, rfl, h2⟩ := castDm_eq h1
  obtain ⟨r, e, h⟩ := bindO_some h2
  refine ⟨_, _, h, fun k' => ?_⟩
  show (castDm (.pair (.sl 2 (.int .i64)) (.pair (.int .i64) (.pair (.int .i64) .unit))) .imm (⟨(.pair (.sl 2 (.int .i64)) (.pair (.int .i64) (.pair (.int .i64) .unit))), .imm, x0⟩ : Dy) fun x0 => castDm (.pair (.sl 2 (.int .i64)) (.pair (.int .i64) (.pair (.int .i64) .unit))) .imm (⟨(.pair (.sl 2 (.int .i64)) (.pair (.int .i64) (.pair (.int .i64) .unit))), .imm, x1⟩ : Dy) fun x1 => bindO (laws_eqBuf N x0 x1) fun r => k' [⟨.bool, .imm, r⟩] []) = _
  simp only [castDm_self]
  rw [e]
  rfl
noncomputable def laws_eqBufOut.con (N : Nat) : Con := { modes := [.v, .v], ptrs := [false], fn := fun ds k => match ds with | [d0, d1] => castDm (.pair (.pair (.sl 2 (.int .i64)) (.pair (.int .i64) (.pair (.int .i64) .unit))) (.pair (.sl 2 (.int .i64)) (.pair (.int .i64) .unit))) .imm d0 fun x0 => castDm (.pair (.pair (.sl 2 (.int .i64)) (.pair (.int .i64) (.pair (.int .i64) .unit))) (.pair (.sl 2 (.int .i64)) (.pair (.int .i64) .unit))) .imm d1 fun x1 => bindO (laws_eqBufOut N x0 x1) fun r => k [⟨.bool, .imm, r⟩] [] | _ => none }
noncomputable def laws_eqBufOut.cfg (N : Nat) : Cfg := { ty := tys, keep := [9, 15], flt := [], elm := [(22, (.own .imm)), (23, (.pr (.own .imm) .imm)), (24, (.pr (.own .imm) .imm)), (25, (.own (.own .imm))), (28, (.pr (.own .imm) .imm)), (29, (.pr (.pr (.own .imm) .imm) (.pr (.own .imm) .imm))), (30, (.pr (.pr (.own .imm) .imm) (.pr (.own .imm) .imm)))], live := [], ord := [], con := [((11, [.one, .one]), laws_eqBuf.con N), ((34, [.one, .one]), laws_eqInt64S.con N)], loops := [], joins := [] }
theorem laws_eqBufOut.cons (N : Nat) : ConsOk Try.prog (laws_eqBufOut.cfg N).con := (consOk_cons (hb11) (laws_eqBuf.ok N) (laws_eqBuf.det N) (consOk_cons (hb34) (laws_eqInt64S.ok N) (laws_eqInt64S.det N) consOk_nil))
theorem laws_eqBufOut.ls (N : Nat) : LoopsOk Try.prog (laws_eqBufOut.cfg N) (fnBody Try.f10) := loopsL (l := []) (by kernel_rfl) trivial
theorem laws_eqBufOut.b (N : Nat) (x0 : den (.pair (.pair (.sl 2 (.int .i64)) (.pair (.int .i64) (.pair (.int .i64) .unit))) (.pair (.sl 2 (.int .i64)) (.pair (.int .i64) .unit)))) (x1 : den (.pair (.pair (.sl 2 (.int .i64)) (.pair (.int .i64) (.pair (.int .i64) .unit))) (.pair (.sl 2 (.int .i64)) (.pair (.int .i64) .unit)))) : body (laws_eqBufOut.cfg N) N Try.f10 [.one, .one] [.v, .v] [(false, .imm)] [⟨(.pair (.pair (.sl 2 (.int .i64)) (.pair (.int .i64) (.pair (.int .i64) .unit))) (.pair (.sl 2 (.int .i64)) (.pair (.int .i64) .unit))), .imm, x0⟩, ⟨(.pair (.pair (.sl 2 (.int .i64)) (.pair (.int .i64) (.pair (.int .i64) .unit))) (.pair (.sl 2 (.int .i64)) (.pair (.int .i64) .unit))), .imm, x1⟩] (fun r i => some (r, i)) = bindO (laws_eqBufOut N x0 x1) fun r => some ([⟨.bool, .imm, r⟩], []) := by
  show _ = bindF _ _
  conv => rhs; simp only [laws_eqBufOut, bindF_ifB, bindF_bindO, bindF_pure, bindF_none, bindF_onSum]
  kernel_rfl
theorem laws_eqBufOut.ok (N : Nat) : ConOk Try.prog 10 [.one, .one] (laws_eqBufOut.con N) := by
  refine conOk_mk (g := laws_eqBufOut.cfg N) (N := N) (res := [(false, .imm)]) tys_ok (laws_eqBufOut.cons N) mixed Try.func10 (laws_eqBufOut.ls N) rfl rfl ?_
  intro ds R k y h
  cases ds with
  | nil => exact none_some h
  | cons d0 ds =>
  cases ds with
  | nil => exact none_some h
  | cons d1 ds =>
  cases ds with
  | cons _ _ => exact none_some h
  | nil =>
  have h0 : (castDm (.pair (.pair (.sl 2 (.int .i64)) (.pair (.int .i64) (.pair (.int .i64) .unit))) (.pair (.sl 2 (.int .i64)) (.pair (.int .i64) .unit))) .imm d0 fun x0 => castDm (.pair (.pair (.sl 2 (.int .i64)) (.pair (.int .i64) (.pair (.int .i64) .unit))) (.pair (.sl 2 (.int .i64)) (.pair (.int .i64) .unit))) .imm d1 fun x1 => bindO (laws_eqBufOut N x0 x1) fun r => k [⟨.bool, .imm, r⟩] []) = some y := h
  clear h
  obtain ⟨x0, rfl, h1⟩ := castDm_eq h0
  obtain ⟨x1, rfl, h2⟩ := castDm_eq h1
  exact con_fin (laws_eqBufOut.b N x0 x1) h2
theorem laws_eqBufOut.det (N : Nat) : ConDet (laws_eqBufOut.con N) := by
  intro ds R k y h
  cases ds with
  | nil => exact none_some h
  | cons d0 ds =>
  cases ds with
  | nil => exact none_some h
  | cons d1 ds =>
  cases ds with
  | cons _ _ => exact none_some h
  | nil =>
  have h0 : (castDm (.pair (.pair (.sl 2 (.int .i64)) (.pair (.int .i64) (.pair (.int .i64) .unit))) (.pair (.sl 2 (.int .i64)) (.pair (.int .i64) .unit))) .imm d0 fun x0 => castDm (.pair (.pair (.sl 2 (.int .i64)) (.pair (.int .i64) (.pair (.int .i64) .unit))) (.pair (.sl 2 (.int .i64)) (.pair (.int .i64) .unit))) .imm d1 fun x1 => bindO (laws_eqBufOut N x0 x1) fun r => k [⟨.bool, .imm, r⟩] []) = some y := h
  clear h
  obtain ⟨x0, rfl, h1⟩ := castDm_eq h0
  obtain ⟨x1, rfl, h2⟩ := castDm_eq h1
  obtain ⟨r, e, h⟩ := bindO_some h2
  refine ⟨_, _, h, fun k' => ?_⟩
  show (castDm (.pair (.pair (.sl 2 (.int .i64)) (.pair (.int .i64) (.pair (.int .i64) .unit))) (.pair (.sl 2 (.int .i64)) (.pair (.int .i64) .unit))) .imm (⟨(.pair (.pair (.sl 2 (.int .i64)) (.pair (.int .i64) (.pair (.int .i64) .unit))) (.pair (.sl 2 (.int .i64)) (.pair (.int .i64) .unit))), .imm, x0⟩ : Dy) fun x0 => castDm (.pair (.pair (.sl 2 (.int .i64)) (.pair (.int .i64) (.pair (.int .i64) .unit))) (.pair (.sl 2 (.int .i64)) (.pair (.int .i64) .unit))) .imm (⟨(.pair (.pair (.sl 2 (.int .i64)) (.pair (.int .i64) (.pair (.int .i64) .unit))) (.pair (.sl 2 (.int .i64)) (.pair (.int .i64) .unit))), .imm, x1⟩ : Dy) fun x1 => bindO (laws_eqBufOut N x0 x1) fun r => k' [⟨.bool, .imm, r⟩] []) = _
  simp only [castDm_self]
  rw [e]
  rfl
def laws_eqInt64SS.sk4 : Skel := ⟨[.pv (.sl 22 (.sl 2 (.int .i64))), .pv (.sl 22 (.sl 2 (.int .i64))), .dead, .dead, .dead, .pv (.int .i64), .dead, .dead, .dead, .dead, .dead, .dead, .dead, .dead, .dead, .dead, .dead, .dead, .dead, .dead, .dead, .dead, .dead, .dead, .dead, .dead, .dead], []⟩
def laws_eqInt64SS.xs4 : List XS := [⟨.exit 0, [], ⟨[.dead, .dead, .dead, .dead, .dead, .dead, .dead, .dead, .dead, .dead, .dead, .dead, .dead, .dead, .dead, .dead, .dead, .dead, .dead, .dead, .dead, .dead, .dead, .dead, .dead, .dead, .dead], []⟩⟩, ⟨.ret, [4], ⟨[.dead, .dead, .dead, .dead, .pv .bool, .dead, .dead, .dead, .dead, .dead, .dead, .dead, .dead, .dead, .dead, .dead, .dead, .dead, .dead, .dead, .dead, .dead, .dead, .dead, .dead, .dead, .dead], []⟩⟩]
noncomputable def laws_eqInt64SS.con (N : Nat) : Con := { modes := [.v, .v], ptrs := [false], fn := fun ds k => match ds with | [d0, d1] => castDm (.sl 22 (.sl 2 (.int .i64))) .imm d0 fun x0 => castDm (.sl 22 (.sl 2 (.int .i64))) .imm d1 fun x1 => bindO (laws_eqInt64SS N x0 x1) fun r => k [⟨.bool, .imm, r⟩] [] | _ => none }
noncomputable def laws_eqInt64SS.cfg (N : Nat) : Cfg := { ty := tys, keep := [25], flt := [], elm := [(22, (.own .imm)), (23, (.pr (.own .imm) .imm)), (24, (.pr (.own .imm) .imm)), (25, (.own (.own .imm))), (28, (.pr (.own .imm) .imm)), (29, (.pr (.pr (.own .imm) .imm) (.pr (.own .imm) .imm))), (30, (.pr (.pr (.own .imm) .imm) (.pr (.own .imm) .imm)))], live := [(4, [0, 1, 5])], ord := [(6, [0, 1, 2, 3, 4, 5, 6, 7, 8, 9])], con := [((34, [.one, .one]), laws_eqInt64S.con N)], loops := [(4, loopCon N laws_eqInt64SS.sk4 laws_eqInt64SS.xs4 (fun {R} => laws_eqInt64SS.l4 (R := R) N))], joins := [] }
theorem laws_eqInt64SS.cons (N : Nat) : ConsOk Try.prog (laws_eqInt64SS.cfg N).con := (consOk_cons (hb34) (laws_eqInt64S.ok N) (laws_eqInt64S.det N) consOk_nil)
theorem laws_eqInt64SS.h4 {R : Type} (N : Nat) (d : laws_eqInt64SS.sk4.D) (kn : laws_eqInt64SS.sk4.D → Option R) (kx : XD laws_eqInt64SS.xs4 → Option R) : roundK (laws_eqInt64SS.cfg N) N (nthLoop (fnBody Try.f12) 0) laws_eqInt64SS.sk4 laws_eqInt64SS.xs4 d kn kx = laws_eqInt64SS.l4 N d kn kx := by kernel_rfl
theorem laws_eqInt64SS.i4 (N : Nat) : LoopsOk Try.prog (laws_eqInt64SS.cfg N) (nthLoop (fnBody Try.f12) 0) := loopsL (l := []) (by kernel_rfl) trivial
theorem laws_eqInt64SS.o4 (N : Nat) : LoopOk Try.prog (nthLoop (fnBody Try.f12) 0) (loopCon N laws_eqInt64SS.sk4 laws_eqInt64SS.xs4 (fun {R} => laws_eqInt64SS.l4 (R := R) N)) := loop_ok (g := laws_eqInt64SS.cfg N) tys_ok (laws_eqInt64SS.cons N) mixed (laws_eqInt64SS.i4 N) (fun d kn kx => laws_eqInt64SS.h4 N d kn kx)
theorem laws_eqInt64SS.ls (N : Nat) : LoopsOk Try.prog (laws_eqInt64SS.cfg N) (fnBody Try.f12) := loopsL (l := [nthLoop (fnBody Try.f12) 0]) (by kernel_rfl) ⟨loopOne (L0 := loopCon N laws_eqInt64SS.sk4 laws_eqInt64SS.xs4 (fun {R} => laws_eqInt64SS.l4 (R := R) N)) (id := 4) (by kernel_rfl) (by kernel_rfl) (laws_eqInt64SS.o4 N), trivial⟩
theorem laws_eqInt64SS.q4 {R R' : Type} {N n : Nat} {d} {k} {g : R → Option R'} : bindF (loopP (laws_eqInt64SS.l4 N) n d k) g = loopP (laws_eqInt64SS.l4 N) n d fun e => bindF (k e) g := bindF_loopP (fun d kn kx => by simp only [laws_eqInt64SS.l4, bindF_ifB, bindF_bindO, bindF_pure, bindF_none, bindF_onSum]) n d k
theorem laws_eqInt64SS.b (N : Nat) (x0 : den (.sl 22 (.sl 2 (.int .i64)))) (x1 : den (.sl 22 (.sl 2 (.int .i64)))) : body (laws_eqInt64SS.cfg N) N Try.f12 [.one, .one] [.v, .v] [(false, .imm)] [⟨(.sl 22 (.sl 2 (.int .i64))), .imm, x0⟩, ⟨(.sl 22 (.sl 2 (.int .i64))), .imm, x1⟩] (fun r i => some (r, i)) = bindO (laws_eqInt64SS N x0 x1) fun r => some ([⟨.bool, .imm, r⟩], []) := by
  show _ = bindF _ _
  conv => rhs; simp only [laws_eqInt64SS, bindF_ifB, bindF_bindO, bindF_pure, bindF_none, bindF_onSum, laws_eqInt64SS.q4]
  kernel_rfl
theorem laws_eqInt64SS.ok (N : Nat) : ConOk Try.prog 12 [.one, .one] (laws_eqInt64SS.con N) := by
  refine conOk_mk (g := laws_eqInt64SS.cfg N) (N := N) (res := [(false, .imm)]) tys_ok (laws_eqInt64SS.cons N) mixed Try.func12 (laws_eqInt64SS.ls N) rfl rfl ?_
  intro ds R k y h
  cases ds with
  | nil => exact none_some h
  | cons d0 ds =>
  cases ds with
  | nil => exact none_some h
  | cons d1 ds =>
  cases ds with
  | cons _ _ => exact none_some h
  | nil =>
  have h0 : (castDm (.sl 22 (.sl 2 (.int .i64))) .imm d0 fun x0 => castDm (.sl 22 (.sl 2 (.int .i64))) .imm d1 fun x1 => bindO (laws_eqInt64SS N x0 x1) fun r => k [⟨.bool, .imm, r⟩] []) = some y := h
  clear h
  obtain ⟨x0, rfl, h1⟩ := castDm_eq h0
  obtain ⟨x1, rfl, h2⟩ := castDm_eq h1
  exact con_fin (laws_eqInt64SS.b N x0 x1) h2
theorem laws_eqInt64SS.det (N : Nat) : ConDet (laws_eqInt64SS.con N) := by
  intro ds R k y h
  cases ds with
  | nil => exact none_some h
  | cons d0 ds =>
  cases ds with
  | nil => exact none_some h
  | cons d1 ds =>
  cases ds with
  | cons _ _ => exact none_some h
  | nil =>
  have h0 : (castDm (.sl 22 (.sl 2 (.int .i64))) .imm d0 fun x0 => castDm (.sl 22 (.sl 2 (.int .i64))) .imm d1 fun x1 => bindO (laws_eqInt64SS N x0 x1) fun r => k [⟨.bool, .imm, r⟩] []) = some y := h
  clear h
  obtain ⟨x0, rfl, h1⟩ := castDm_eq h0
  obtain ⟨x1, rfl, h2⟩ := castDm_eq h1
  obtain ⟨r, e, h⟩ := bindO_some h2
  refine ⟨_, _, h, fun k' => ?_⟩
  show (castDm (.sl 22 (.sl 2 (.int .i64))) .imm (⟨(.sl 22 (.sl 2 (.int .i64))), .imm, x0⟩ : Dy) fun x0 => castDm (.sl 22 (.sl 2 (.int .i64))) .imm (⟨(.sl 22 (.sl 2 (.int .i64))), .imm, x1⟩ : Dy) fun x1 => bindO (laws_eqInt64SS N x0 x1) fun r => k' [⟨.bool, .imm, r⟩] []) = _
  simp only [castDm_self]
  rw [e]
  rfl
def laws_markInt64S.sk2 : Skel := ⟨[.ov 0 [], .pv (.int .i64), .dead, .dead, .dead, .pv (.int .i64), .dead, .dead, .dead, .dead, .dead, .dead, .dead, .dead, .dead, .dead, .dead, .dead, .dead], [⟨0, (.sl 2 (.int .i64)), (.own .imm), false, true⟩]⟩
def laws_markInt64S.xs2 : List XS := [⟨.exit 0, [1], ⟨[.dead, .pv (.int .i64), .dead, .dead, .dead, .dead, .dead, .dead, .dead, .dead, .dead, .dead, .dead, .dead, .dead, .dead, .dead, .dead, .dead], [⟨0, (.sl 2 (.int .i64)), (.own .imm), false, true⟩]⟩⟩]
noncomputable def laws_markInt64S.con (N : Nat) : Con := { modes := [.iov, .v], ptrs := [false], fn := fun ds k => match ds with | [d0, d1] => castDm (.sl 2 (.int .i64)) (.own .imm) d0 fun x0 => castDm (.int .i64) .imm d1 fun x1 => bindO (laws_markInt64S N x0 x1) fun r => k [⟨(.int .i64), .imm, r.1⟩] [⟨(.sl 2 (.int .i64)), (.own .imm), r.2⟩] | _ => none }
noncomputable def laws_markInt64S.cfg (N : Nat) : Cfg := { ty := tys, keep := [], flt := [], elm := [(22, (.own .imm)), (23, (.pr (.own .imm) .imm)), (24, (.pr (.own .imm) .imm)), (25, (.own (.own .imm))), (28, (.pr (.own .imm) .imm)), (29, (.pr (.pr (.own .imm) .imm) (.pr (.own .imm) .imm))), (30, (.pr (.pr (.own .imm) .imm) (.pr (.own .imm) .imm)))], live := [(2, [0, 1, 5])], ord := [], con := [], loops := [(2, loopCon N laws_markInt64S.sk2 laws_markInt64S.xs2 (fun {R} => laws_markInt64S.l2 (R := R) N))], joins := [] }
theorem laws_markInt64S.cons (N : Nat) : ConsOk Try.prog (laws_markInt64S.cfg N).con := consOk_nil
theorem laws_markInt64S.h2 {R : Type} (N : Nat) (d : laws_markInt64S.sk2.D) (kn : laws_markInt64S.sk2.D → Option R) (kx : XD laws_markInt64S.xs2 → Option R) : roundK (laws_markInt64S.cfg N) N (nthLoop (fnBody Try.f35) 0) laws_markInt64S.sk2 laws_markInt64S.xs2 d kn kx = laws_markInt64S.l2 N d kn kx := by kernel_rfl
theorem laws_markInt64S.i2 (N : Nat) : LoopsOk Try.prog (laws_markInt64S.cfg N) (nthLoop (fnBody Try.f35) 0) := loopsL (l := []) (by kernel_rfl) trivial
theorem laws_markInt64S.o2 (N : Nat) : LoopOk Try.prog (nthLoop (fnBody Try.f35) 0) (loopCon N laws_markInt64S.sk2 laws_markInt64S.xs2 (fun {R} => laws_markInt64S.l2 (R := R) N)) := loop_ok (g := laws_markInt64S.cfg N) tys_ok (laws_markInt64S.cons N) mixed (laws_markInt64S.i2 N) (fun d kn kx => laws_markInt64S.h2 N d kn kx)
theorem laws_markInt64S.ls (N : Nat) : LoopsOk Try.prog (laws_markInt64S.cfg N) (fnBody Try.f35) := loopsL (l := [nthLoop (fnBody Try.f35) 0]) (by kernel_rfl) ⟨loopOne (L0 := loopCon N laws_markInt64S.sk2 laws_markInt64S.xs2 (fun {R} => laws_markInt64S.l2 (R := R) N)) (id := 2) (by kernel_rfl) (by kernel_rfl) (laws_markInt64S.o2 N), trivial⟩
theorem laws_markInt64S.q2 {R R' : Type} {N n : Nat} {d} {k} {g : R → Option R'} : bindF (loopP (laws_markInt64S.l2 N) n d k) g = loopP (laws_markInt64S.l2 N) n d fun e => bindF (k e) g := bindF_loopP (fun d kn kx => by simp only [laws_markInt64S.l2, bindF_ifB, bindF_bindO, bindF_pure, bindF_none, bindF_onSum]) n d k
theorem laws_markInt64S.b (N : Nat) (x0 : den (.sl 2 (.int .i64))) (x1 : den (.int .i64)) : body (laws_markInt64S.cfg N) N Try.f35 [.one, .one] [.iov, .v] [(false, .imm)] [⟨(.sl 2 (.int .i64)), (.own .imm), x0⟩, ⟨(.int .i64), .imm, x1⟩] (fun r i => some (r, i)) = bindO (laws_markInt64S N x0 x1) fun r => some ([⟨(.int .i64), .imm, r.1⟩], [⟨(.sl 2 (.int .i64)), (.own .imm), r.2⟩]) := by
  show _ = bindF _ _
  conv => rhs; simp only [laws_markInt64S, bindF_ifB, bindF_bindO, bindF_pure, bindF_none, bindF_onSum, laws_markInt64S.q2]
  kernel_rfl
theorem laws_markInt64S.ok (N : Nat) : ConOk Try.prog 35 [.one, .one] (laws_markInt64S.con N) := by
  refine conOk_mk (g := laws_markInt64S.cfg N) (N := N) (res := [(false, .imm)]) tys_ok (laws_markInt64S.cons N) mixed Try.func35 (laws_markInt64S.ls N) rfl rfl ?_
  intro ds R k y h
  cases ds with
  | nil => exact none_some h
  | cons d0 ds =>
  cases ds with
  | nil => exact none_some h
  | cons d1 ds =>
  cases ds with
  | cons _ _ => exact none_some h
  | nil =>
  have h0 : (castDm (.sl 2 (.int .i64)) (.own .imm) d0 fun x0 => castDm (.int .i64) .imm d1 fun x1 => bindO (laws_markInt64S N x0 x1) fun r => k [⟨(.int .i64), .imm, r.1⟩] [⟨(.sl 2 (.int .i64)), (.own .imm), r.2⟩]) = some y := h
  clear h
  obtain ⟨x0, rfl, h1⟩ := castDm_eq h0
  obtain ⟨x1, rfl, h2⟩ := castDm_eq h1
  exact con_fin (laws_markInt64S.b N x0 x1) h2
theorem laws_markInt64S.det (N : Nat) : ConDet (laws_markInt64S.con N) := by
  intro ds R k y h
  cases ds with
  | nil => exact none_some h
  | cons d0 ds =>
  cases ds with
  | nil => exact none_some h
  | cons d1 ds =>
  cases ds with
  | cons _ _ => exact none_some h
  | nil =>
  have h0 : (castDm (.sl 2 (.int .i64)) (.own .imm) d0 fun x0 => castDm (.int .i64) .imm d1 fun x1 => bindO (laws_markInt64S N x0 x1) fun r => k [⟨(.int .i64), .imm, r.1⟩] [⟨(.sl 2 (.int .i64)), (.own .imm), r.2⟩]) = some y := h
  clear h
  obtain ⟨x0, rfl, h1⟩ := castDm_eq h0
  obtain ⟨x1, rfl, h2⟩ := castDm_eq h1
  obtain ⟨r, e, h⟩ := bindO_some h2
  refine ⟨_, _, h, fun k' => ?_⟩
  show (castDm (.sl 2 (.int .i64)) (.own .imm) (⟨(.sl 2 (.int .i64)), (.own .imm), x0⟩ : Dy) fun x0 => castDm (.int .i64) .imm (⟨(.int .i64), .imm, x1⟩ : Dy) fun x1 => bindO (laws_markInt64S N x0 x1) fun r => k' [⟨(.int .i64), .imm, r.1⟩] [⟨(.sl 2 (.int .i64)), (.own .imm), r.2⟩]) = _
  simp only [castDm_self]
  rw [e]
  rfl
end Go.AE.F
