/- The printed functions are what the program comes to: contracts. -/
import Derived.Test.YtfmifmmajilgmaaLCompPutL4
namespace Go.AE.F
open Go.AE Go.Proofs
set_option maxRecDepth 100000
noncomputable def slices_Grow_Sint64_int64.con (N : Nat) : Con := { modes := [.nl, .v], ptrs := [false], fn := fun ds k => match ds with | [d0, d1] => castDm (.sl 2 (.int .i64)) .imm d0 fun x0 => castDm (.int .i64) .imm d1 fun x1 => bindO (slices_Grow_Sint64_int64 N x0 x1) fun r => k [⟨(.sl 2 (.int .i64)), (.own .imm), r⟩] [] | _ => none }
noncomputable def slices_Grow_Sint64_int64.cfg (N : Nat) : Cfg := { ty := tys, keep := [], flt := [], elm := [(22, (.own .imm)), (23, (.own .imm)), (24, (.pr (.own .imm) .imm)), (25, (.pr (.own .imm) .imm)), (26, (.own (.own .imm))), (29, (.pr (.pr (.own .imm) .imm) (.pr (.own .imm) .imm))), (30, (.pr (.pr (.own .imm) .imm) (.pr (.own .imm) .imm))), (54, (.pr (.own .imm) .imm)), (55, (.pr (.own .imm) .imm)), (61, (.own .imm))], live := [], ord := [], con := [], loops := [], joins := [] }
theorem slices_Grow_Sint64_int64.cons (N : Nat) : ConsOk Try.prog (slices_Grow_Sint64_int64.cfg N).con := consOk_nil
theorem slices_Grow_Sint64_int64.ls (N : Nat) : LoopsOk Try.prog (slices_Grow_Sint64_int64.cfg N) (fnBody Try.f69) := loopsL (l := []) (by kernel_rfl) trivial
theorem slices_Grow_Sint64_int64.b (N : Nat) (x0 : den (.sl 2 (.int .i64))) (x1 : den (.int .i64)) : body (slices_Grow_Sint64_int64.cfg N) N Try.f69 [.one, .one] [.nl, .v] [(false, (.own .imm))] [⟨(.sl 2 (.int .i64)), .imm, x0⟩, ⟨(.int .i64), .imm, x1⟩] (fun r i => some (r, i)) = bindO (slices_Grow_Sint64_int64 N x0 x1) fun r => some ([⟨(.sl 2 (.int .i64)), (.own .imm), r⟩], []) := by
  show _ = bindF _ _
  conv => rhs; simp only [slices_Grow_Sint64_int64, bindF_ifB, bindF_bindO, bindF_pure, bindF_none, bindF_onSum]
  kernel_rfl
theorem slices_Grow_Sint64_int64.ok (N : Nat) : ConOk Try.prog 69 [.one, .one] (slices_Grow_Sint64_int64.con N) := by
  refine conOk_mk (g := slices_Grow_Sint64_int64.cfg N) (N := N) (res := [(false, (.own .imm))]) tys_ok (slices_Grow_Sint64_int64.cons N) mixed Try.func69 (slices_Grow_Sint64_int64.ls N) rfl rfl ?_
  intro ds R k y h
  cases ds with
  | nil => exact none_some h
  | cons d0 ds =>
  cases ds with
  | nil => exact none_some h
  | cons d1 ds =>
  cases ds with
  | cons _ _ => exact none_some h
  | nil =>
  have h0 : (castDm (.sl 2 (.int .i64)) .imm d0 fun x0 => castDm (.int .i64) .imm d1 fun x1 => bindO (slices_Grow_Sint64_int64 N x0 x1) fun r => k [⟨(.sl 2 (.int .i64)), (.own .imm), r⟩] []) = some y := h
  clear h
  obtain ⟨x0, rfl, h1⟩ := castDm_eq h0
  obtain ⟨x1, rfl, h2⟩ := castDm_eq h1
  exact con_fin (slices_Grow_Sint64_int64.b N x0 x1) h2
theorem slices_Grow_Sint64_int64.det (N : Nat) : ConDet (slices_Grow_Sint64_int64.con N) := by
  intro ds R k y h
  cases ds with
  | nil => exact none_some h
  | cons d0 ds =>
  cases ds with
  | nil => exact none_some h
  | cons d1 ds =>
  cases ds with
  | cons _ _ => exact none_some h
  | nil =>
  have h0 : (castDm (.sl 2 (.int .i64)) .imm d0 fun x0 => castDm (.int .i64) .imm d1 fun x1 => bindO (slices_Grow_Sint64_int64 N x0 x1) fun r => k [⟨(.sl 2 (.int .i64)), (.own .imm), r⟩] []) = some y := h
  clear h
  obtain ⟨x0, rfl, h1⟩ := castDm_eq h0
  obtain ⟨x1, rfl, h2⟩ := castDm_eq h1
  obtain ⟨r, e, h⟩ := bindO_some h2
  refine ⟨_, _, h, fun k' => ?_⟩
  show (castDm (.sl 2 (.int .i64)) .imm (⟨(.sl 2 (.int .i64)), .imm, x0⟩ : Dy) fun x0 => castDm (.int .i64) .imm (⟨(.int .i64), .imm, x1⟩ : Dy) fun x1 => bindO (slices_Grow_Sint64_int64 N x0 x1) fun r => k' [⟨(.sl 2 (.int .i64)), (.own .imm), r⟩] []) = _
  simp only [castDm_self]
  rw [e]
  rfl
def slices_Concat_Sint64_int64.sk3 : Skel := ⟨[.pv (.sl 23 (.sl 2 (.int .i64))), .dead, .dead, .pv (.int .i64), .dead, .dead, .dead, .dead, .dead, .pv (.sl 23 (.sl 2 (.int .i64))), .pv (.int .i64), .pv (.int .i64), .dead, .dead, .dead, .dead, .dead, .dead, .dead, .dead, .dead, .dead, .dead, .dead, .dead, .dead, .dead, .dead, .dead, .dead, .dead, .dead, .dead, .dead, .dead, .dead], []⟩
def slices_Concat_Sint64_int64.xs3 : List XS := [⟨.exit 0, [0, 3], ⟨[.pv (.sl 23 (.sl 2 (.int .i64))), .dead, .dead, .pv (.int .i64), .dead, .dead, .dead, .dead, .dead, .dead, .dead, .dead, .dead, .dead, .dead, .dead, .dead, .dead, .dead, .dead, .dead, .dead, .dead, .dead, .dead, .dead, .dead, .dead, .dead, .dead, .dead, .dead, .dead, .dead, .dead, .dead], []⟩⟩]
def slices_Concat_Sint64_int64.sk11 : Skel := ⟨[.dead, .dead, .dead, .dead, .dead, .dead, .ov 50 [], .dead, .dead, .dead, .dead, .dead, .dead, .dead, .dead, .dead, .dead, .dead, .dead, .dead, .dead, .dead, .dead, .dead, .dead, .pv (.sl 23 (.sl 2 (.int .i64))), .pv (.int .i64), .pv (.int .i64), .dead, .dead, .dead, .dead, .dead, .dead, .dead, .dead], [⟨50, (.sl 2 (.int .i64)), (.own .imm), false, false⟩]⟩
def slices_Concat_Sint64_int64.xs11 : List XS := [⟨.exit 2, [6], ⟨[.dead, .dead, .dead, .dead, .dead, .dead, .ov 50 [], .dead, .dead, .dead, .dead, .dead, .dead, .dead, .dead, .dead, .dead, .dead, .dead, .dead, .dead, .dead, .dead, .dead, .dead, .dead, .dead, .dead, .dead, .dead, .dead, .dead, .dead, .dead, .dead, .dead], [⟨50, (.sl 2 (.int .i64)), (.own .imm), false, false⟩]⟩⟩]
noncomputable def slices_Concat_Sint64_int64.con (N : Nat) : Con := { modes := [.v], ptrs := [false], fn := fun ds k => match ds with | [d0] => castDm (.sl 23 (.sl 2 (.int .i64))) .imm d0 fun x0 => bindO (slices_Concat_Sint64_int64 N x0) fun r => k [⟨(.sl 2 (.int .i64)), (.own .imm), r⟩] [] | _ => none }
noncomputable def slices_Concat_Sint64_int64.cfg (N : Nat) : Cfg := { ty := tys, keep := [24], flt := [], elm := [(22, (.own .imm)), (23, (.own .imm)), (24, (.pr (.own .imm) .imm)), (25, (.pr (.own .imm) .imm)), (26, (.own (.own .imm))), (29, (.pr (.pr (.own .imm) .imm) (.pr (.own .imm) .imm))), (30, (.pr (.pr (.own .imm) .imm) (.pr (.own .imm) .imm))), (54, (.pr (.own .imm) .imm)), (55, (.pr (.own .imm) .imm)), (61, (.own .imm))], live := [(11, [6, 25, 26, 27]), (3, [0, 3, 9, 10, 11])], ord := [], con := [((69, [.one, .one]), slices_Grow_Sint64_int64.con N)], loops := [(3, loopCon N slices_Concat_Sint64_int64.sk3 slices_Concat_Sint64_int64.xs3 (fun {R} => slices_Concat_Sint64_int64.l3 (R := R) N)), (11, loopCon N slices_Concat_Sint64_int64.sk11 slices_Concat_Sint64_int64.xs11 (fun {R} => slices_Concat_Sint64_int64.l11 (R := R) N))], joins := [] }
theorem slices_Concat_Sint64_int64.cons (N : Nat) : ConsOk Try.prog (slices_Concat_Sint64_int64.cfg N).con := (consOk_cons (hb69) (slices_Grow_Sint64_int64.ok N) (slices_Grow_Sint64_int64.det N) consOk_nil)
theorem slices_Concat_Sint64_int64.h11 {R : Type} (N : Nat) (d : slices_Concat_Sint64_int64.sk11.D) (kn : slices_Concat_Sint64_int64.sk11.D → Option R) (kx : XD slices_Concat_Sint64_int64.xs11 → Option R) : roundK (slices_Concat_Sint64_int64.cfg N) N (nthLoop (fnBody Try.f58) 1) slices_Concat_Sint64_int64.sk11 slices_Concat_Sint64_int64.xs11 d kn kx = slices_Concat_Sint64_int64.l11 N d kn kx := by kernel_rfl
theorem slices_Concat_Sint64_int64.i11 (N : Nat) : LoopsOk Try.prog (slices_Concat_Sint64_int64.cfg N) (nthLoop (fnBody Try.f58) 1) := loopsL (l := []) (by kernel_rfl) trivial
theorem slices_Concat_Sint64_int64.o11 (N : Nat) : LoopOk Try.prog (nthLoop (fnBody Try.f58) 1) (loopCon N slices_Concat_Sint64_int64.sk11 slices_Concat_Sint64_int64.xs11 (fun {R} => slices_Concat_Sint64_int64.l11 (R := R) N)) := loop_ok (g := slices_Concat_Sint64_int64.cfg N) tys_ok (slices_Concat_Sint64_int64.cons N) mixed (slices_Concat_Sint64_int64.i11 N) (fun d kn kx => slices_Concat_Sint64_int64.h11 N d kn kx)
theorem slices_Concat_Sint64_int64.h3 {R : Type} (N : Nat) (d : slices_Concat_Sint64_int64.sk3.D) (kn : slices_Concat_Sint64_int64.sk3.D → Option R) (kx : XD slices_Concat_Sint64_int64.xs3 → Option R) : roundK (slices_Concat_Sint64_int64.cfg N) N (nthLoop (fnBody Try.f58) 0) slices_Concat_Sint64_int64.sk3 slices_Concat_Sint64_int64.xs3 d kn kx = slices_Concat_Sint64_int64.l3 N d kn kx := by kernel_rfl
theorem slices_Concat_Sint64_int64.i3 (N : Nat) : LoopsOk Try.prog (slices_Concat_Sint64_int64.cfg N) (nthLoop (fnBody Try.f58) 0) := loopsL (l := []) (by kernel_rfl) trivial
theorem slices_Concat_Sint64_int64.o3 (N : Nat) : LoopOk Try.prog (nthLoop (fnBody Try.f58) 0) (loopCon N slices_Concat_Sint64_int64.sk3 slices_Concat_Sint64_int64.xs3 (fun {R} => slices_Concat_Sint64_int64.l3 (R := R) N)) := loop_ok (g := slices_Concat_Sint64_int64.cfg N) tys_ok (slices_Concat_Sint64_int64.cons N) mixed (slices_Concat_Sint64_int64.i3 N) (fun d kn kx => slices_Concat_Sint64_int64.h3 N d kn kx)
theorem slices_Concat_Sint64_int64.ls (N : Nat) : LoopsOk Try.prog (slices_Concat_Sint64_int64.cfg N) (fnBody Try.f58) := loopsL (l := [nthLoop (fnBody Try.f58) 0, nthLoop (fnBody Try.f58) 1]) (by kernel_rfl) ⟨loopOne (L0 := loopCon N slices_Concat_Sint64_int64.sk3 slices_Concat_Sint64_int64.xs3 (fun {R} => slices_Concat_Sint64_int64.l3 (R := R) N)) (id := 3) (by kernel_rfl) (by kernel_rfl) (slices_Concat_Sint64_int64.o3 N), ⟨loopOne (L0 := loopCon N slices_Concat_Sint64_int64.sk11 slices_Concat_Sint64_int64.xs11 (fun {R} => slices_Concat_Sint64_int64.l11 (R := R) N)) (id := 11) (by kernel_rfl) (by kernel_rfl) (slices_Concat_Sint64_int64.o11 N), trivial⟩⟩
theorem slices_Concat_Sint64_int64.q11 {R R' : Type} {N n : Nat} {d} {k} {g : R → Option R'} : bindF (loopP (slices_Concat_Sint64_int64.l11 N) n d k) g = loopP (slices_Concat_Sint64_int64.l11 N) n d fun e => bindF (k e) g := bindF_loopP (fun d kn kx => by simp only [slices_Concat_Sint64_int64.l11, bindF_ifB, bindF_bindO, bindF_pure, bindF_none, bindF_onSum]) n d k
theorem slices_Concat_Sint64_int64.q3 {R R' : Type} {N n : Nat} {d} {k} {g : R → Option R'} : bindF (loopP (slices_Concat_Sint64_int64.l3 N) n d k) g = loopP (slices_Concat_Sint64_int64.l3 N) n d fun e => bindF (k e) g := bindF_loopP (fun d kn kx => by simp only [slices_Concat_Sint64_int64.l3, bindF_ifB, bindF_bindO, bindF_pure, bindF_none, bindF_onSum]) n d k
theorem slices_Concat_Sint64_int64.b (N : Nat) (x0 : den (.sl 23 (.sl 2 (.int .i64)))) : body (slices_Concat_Sint64_int64.cfg N) N Try.f58 [.one] [.v] [(false, (.own .imm))] [⟨(.sl 23 (.sl 2 (.int .i64))), .imm, x0⟩] (fun r i => some (r, i)) = bindO (slices_Concat_Sint64_int64 N x0) fun r => some ([⟨(.sl 2 (.int .i64)), (.own .imm), r⟩], []) := by
  show _ = bindF _ _
  conv => rhs; simp only [slices_Concat_Sint64_int64, bindF_ifB, bindF_bindO, bindF_pure, bindF_none, bindF_onSum, slices_Concat_Sint64_int64.q3, slices_Concat_Sint64_int64.q11]
  kernel_rfl
theorem slices_Concat_Sint64_int64.ok (N : Nat) : ConOk Try.prog 58 [.one] (slices_Concat_Sint64_int64.con N) := by
  refine conOk_mk (g := slices_Concat_Sint64_int64.cfg N) (N := N) (res := [(false, (.own .imm))]) tys_ok (slices_Concat_Sint64_int64.cons N) mixed Try.func58 (slices_Concat_Sint64_int64.ls N) rfl rfl ?_
  intro ds R k y h
  cases ds with
  | nil => exact none_some h
  | cons d0 ds =>
  cases ds with
  | cons _ _ => exact none_some h
  | nil =>
  have h0 : (castDm (.sl 23 (.sl 2 (.int .i64))) .imm d0 fun x0 => bindO (slices_Concat_Sint64_int64 N x0) fun r => k [⟨(.sl 2 (.int .i64)), (.own .imm), r⟩] []) = some y := h
  clear h
  obtain ⟨x0, rfl, h1⟩ := castDm_eq h0
  exact con_fin (slices_Concat_Sint64_int64.b N x0) h1
theorem slices_Concat_Sint64_int64.det (N : Nat) : ConDet (slices_Concat_Sint64_int64.con N) := by
  intro ds R k y h
  cases ds with
  | nil => exact none_some h
  | cons d0 ds =>
  cases ds with
  | cons _ _ => exact none_some h
  | nil =>
  have h0 : (castDm (.sl 23 (.sl 2 (.int .i64))) .imm d0 fun x0 => bindO (slices_Concat_Sint64_int64 N x0) fun r => k [⟨(.sl 2 (.int .i64)), (.own .imm), r⟩] []) = some y := h
  clear h
  obtain ⟨x0, rfl, h1⟩ := castDm_eq h0
  obtain ⟨r, e, h⟩ := bindO_some h1
  refine ⟨_, _, h, fun k' => ?_⟩
  show (castDm (.sl 23 (.sl 2 (.int .i64))) .imm (⟨(.sl 23 (.sl 2 (.int .i64))), .imm, x0⟩ : Dy) fun x0 => bindO (slices_Concat_Sint64_int64 N x0) fun r => k' [⟨(.sl 2 (.int .i64)), (.own .imm), r⟩] []) = _
  simp only [castDm_self]
  rw [e]
  rfl
noncomputable def impl_replace_c1.con (N : Nat) : Con := { modes := [.v, .rd, .rd, .rd], ptrs := [false], fn := fun ds k => match ds with | [d0, d1, d2, d3] => castDm (.int .i64) .imm d0 fun x0 => castDm (.int .i64) .imm d1 fun x1 => castDm (.int .i64) .imm d2 fun x2 => castDm (.int .i64) .imm d3 fun x3 => bindO (impl_replace_c1 N x0 x1 x2 x3) fun r => k [⟨(.int .i64), .imm, r⟩] [] | _ => none }
noncomputable def impl_replace_c1.cfg (N : Nat) : Cfg := { ty := tys, keep := [], flt := [], elm := [(22, (.own .imm)), (23, (.own .imm)), (24, (.pr (.own .imm) .imm)), (25, (.pr (.own .imm) .imm)), (26, (.own (.own .imm))), (29, (.pr (.pr (.own .imm) .imm) (.pr (.own .imm) .imm))), (30, (.pr (.pr (.own .imm) .imm) (.pr (.own .imm) .imm))), (54, (.pr (.own .imm) .imm)), (55, (.pr (.own .imm) .imm)), (61, (.own .imm))], live := [], ord := [], con := [], loops := [], joins := [] }
theorem impl_replace_c1.cons (N : Nat) : ConsOk Try.prog (impl_replace_c1.cfg N).con := consOk_nil
theorem impl_replace_c1.ls (N : Nat) : LoopsOk Try.prog (impl_replace_c1.cfg N) (fnBody Try.f57) := loopsL (l := []) (by kernel_rfl) trivial
theorem impl_replace_c1.b (N : Nat) (x0 : den (.int .i64)) (x1 : den (.int .i64)) (x2 : den (.int .i64)) (x3 : den (.int .i64)) : body (impl_replace_c1.cfg N) N Try.f57 [.one] [.v, .rd, .rd, .rd] [(false, .imm)] [⟨(.int .i64), .imm, x0⟩, ⟨(.int .i64), .imm, x1⟩, ⟨(.int .i64), .imm, x2⟩, ⟨(.int .i64), .imm, x3⟩] (fun r i => some (r, i)) = bindO (impl_replace_c1 N x0 x1 x2 x3) fun r => some ([⟨(.int .i64), .imm, r⟩], []) := by
  show _ = bindF _ _
  conv => rhs; simp only [impl_replace_c1, bindF_ifB, bindF_bindO, bindF_pure, bindF_none, bindF_onSum]
  kernel_rfl
theorem impl_replace_c1.ok (N : Nat) : ConOk Try.prog 57 [.one] (impl_replace_c1.con N) := by
  refine conOk_mk (g := impl_replace_c1.cfg N) (N := N) (res := [(false, .imm)]) tys_ok (impl_replace_c1.cons N) mixed Try.func57 (impl_replace_c1.ls N) rfl rfl ?_
  intro ds R k y h
  cases ds with
  | nil => exact none_some h
  | cons d0 ds =>
  cases ds with
  | nil => exact none_some h
  | cons d1 ds =>
  cases ds with
  | nil => exact none_some h
  | cons d2 ds =>
  cases ds with
  | nil => exact none_some h
  | cons d3 ds =>
  cases ds with
  | cons _ _ => exact none_some h
  | nil =>
  have h0 : (castDm (.int .i64) .imm d0 fun x0 => castDm (.int .i64) .imm d1 fun x1 => castDm (.int .i64) .imm d2 fun x2 => castDm (.int .i64) .imm d3 fun x3 => bindO (impl_replace_c1 N x0 x1 x2 x3) fun r => k [⟨(.int .i64), .imm, r⟩] []) = some y := h
  clear h
  obtain ⟨x0, rfl, h1⟩ := castDm_eq h0
  obtain ⟨x1, rfl, h2⟩ := castDm_eq h1
  obtain ⟨x2, rfl, h3⟩ := castDm_eq h2
  obtain ⟨x3, rfl, h4⟩ := castDm_eq h3
  exact con_fin (impl_replace_c1.b N x0 x1 x2 x3) h4
theorem impl_replace_c1.det (N : Nat) : ConDet (impl_replace_c1.con N) := by
  intro ds R k y h
  cases ds with
  | nil => exact none_some h
  | cons d0 ds =>
  cases ds with
  | nil => exact none_some h
  | cons d1 ds =>
  cases ds with
  | nil => exact none_some h
  | cons d2 ds =>
  cases ds with
  | nil => exact none_some h
  | cons d3 ds =>
  cases ds with
  | cons _ _ => exact none_some h
  | nil =>
  have h0 : (castDm (.int .i64) .imm d0 fun x0 => castDm (.int .i64) .imm d1 fun x1 => castDm (.int .i64) .imm d2 fun x2 => castDm (.int .i64) .imm d3 fun x3 => bindO (impl_replace_c1 N x0 x1 x2 x3) fun r => k [⟨(.int .i64), .imm, r⟩] []) = some y := h
  clear h
  obtain ⟨x0, rfl, h1⟩ := castDm_eq h0
  obtain ⟨x1, rfl, h2⟩ := castDm_eq h1
  obtain ⟨x2, rfl, h3⟩ := castDm_eq h2
  obtain ⟨x3, rfl, h4⟩ := castDm_eq h3
  obtain ⟨r, e, h⟩ := bindO_some h4
  refine ⟨_, _, h, fun k' => ?_⟩
  show (castDm (.int .i64) .imm (⟨(.int .i64), .imm, x0⟩ : Dy) fun x0 => castDm (.int .i64) .imm (⟨(.int .i64), .imm, x1⟩ : Dy) fun x1 => castDm (.int .i64) .imm (⟨(.int .i64), .imm, x2⟩ : Dy) fun x2 => castDm (.int .i64) .imm (⟨(.int .i64), .imm, x3⟩ : Dy) fun x3 => bindO (impl_replace_c1 N x0 x1 x2 x3) fun r => k' [⟨(.int .i64), .imm, r⟩] []) = _
  simp only [castDm_self]
  rw [e]
  rfl
noncomputable def impl_replace.con (N : Nat) : Con := { modes := [.v, .v, .v, .v], ptrs := [false], fn := fun ds k => match ds with | [d0, d1, d2, d3] => castDm (.pair (.sl 2 (.int .i64)) (.pair (.int .i64) (.pair (.int .i64) .unit))) .imm d0 fun x0 => castDm (.int .i64) .imm d1 fun x1 => castDm (.int .i64) .imm d2 fun x2 => castDm (.sl 2 (.int .i64)) .imm d3 fun x3 => bindO (impl_replace N x0 x1 x2 x3) fun r => k [⟨(.pair (.pair (.sl 2 (.int .i64)) (.pair (.int .i64) (.pair (.int .i64) .unit))) (.pair (.sl 2 (.int .i64)) (.pair (.int .i64) .unit))), (.pr (.pr (.own .imm) .imm) (.pr (.own .imm) .imm)), r⟩] [] | _ => none }
noncomputable def impl_replace.cfg (N : Nat) : Cfg := { ty := tys, keep := [23, 28, 35, 51, 55, 59, 72, 81], flt := [], elm := [(22, (.own .imm)), (23, (.own .imm)), (24, (.pr (.own .imm) .imm)), (25, (.pr (.own .imm) .imm)), (26, (.own (.own .imm))), (29, (.pr (.pr (.own .imm) .imm) (.pr (.own .imm) .imm))), (30, (.pr (.pr (.own .imm) .imm) (.pr (.own .imm) .imm))), (54, (.pr (.own .imm) .imm)), (55, (.pr (.own .imm) .imm)), (61, (.own .imm))], live := [], ord := [(1, [0, 1, 2, 3, 4, 5, 6, 7, 8, 9, 10, 11, 12, 13]), (3, [6, 0, 2, 3, 4, 1, 5, 7]), (4, [0, 1, 3, 2, 4, 5]), (7, [20, 0, 1, 2, 3, 4, 5, 6, 7, 8, 11, 12, 13, 15, 16, 17, 9, 10, 14, 18, 19, 21]), (9, [0, 1, 2, 3, 4, 5]), (10, [0, 1, 2, 3, 4, 5, 6, 7, 8])], con := [((50, [.one]), impl_size_Sint64.con N), ((58, [.one]), slices_Concat_Sint64_int64.con N), ((57, [.one]), impl_replace_c1.con N), ((30, [.one]), slices_Clone_Sint64_int64.con N)], loops := [], joins := [] }
theorem impl_replace.cons (N : Nat) : ConsOk Try.prog (impl_replace.cfg N).con := (consOk_cons (hb50) (impl_size_Sint64.ok N) (impl_size_Sint64.det N) (consOk_cons (hb58) (slices_Concat_Sint64_int64.ok N) (slices_Concat_Sint64_int64.det N) (consOk_cons (hb57) (impl_replace_c1.ok N) (impl_replace_c1.det N) (consOk_cons (hb30) (slices_Clone_Sint64_int64.ok N) (slices_Clone_Sint64_int64.det N) consOk_nil))))
theorem impl_replace.ls (N : Nat) : LoopsOk Try.prog (impl_replace.cfg N) (fnBody Try.f32) := loopsL (l := []) (by kernel_rfl) trivial
theorem impl_replace.b (N : Nat) (x0 : den (.pair (.sl 2 (.int .i64)) (.pair (.int .i64) (.pair (.int .i64) .unit)))) (x1 : den (.int .i64)) (x2 : den (.int .i64)) (x3 : den (.sl 2 (.int .i64))) : body (impl_replace.cfg N) N Try.f32 [.one, .one, .one, .one] [.v, .v, .v, .v] [(false, (.pr (.pr (.own .imm) .imm) (.pr (.own .imm) .imm)))] [⟨(.pair (.sl 2 (.int .i64)) (.pair (.int .i64) (.pair (.int .i64) .unit))), .imm, x0⟩, ⟨(.int .i64), .imm, x1⟩, ⟨(.int .i64), .imm, x2⟩, ⟨(.sl 2 (.int .i64)), .imm, x3⟩] (fun r i => some (r, i)) = bindO (impl_replace N x0 x1 x2 x3) fun r => some ([⟨(.pair (.pair (.sl 2 (.int .i64)) (.pair (.int .i64) (.pair (.int .i64) .unit))) (.pair (.sl 2 (.int .i64)) (.pair (.int .i64) .unit))), (.pr (.pr (.own .imm) .imm) (.pr (.own .imm) .imm)), r⟩], []) := by
  show _ = bindF _ _
  conv => rhs; simp only [impl_replace, bindF_ifB, bindF_bindO, bindF_pure, bindF_none, bindF_onSum]
  kernel_rfl
theorem impl_replace.ok (N : Nat) : ConOk Try.prog 32 [.one, .one, .one, .one] (impl_replace.con N) := by
  refine conOk_mk (g := impl_replace.cfg N) (N := N) (res := [(false, (.pr (.pr (.own .imm) .imm) (.pr (.own .imm) .imm)))]) tys_ok (impl_replace.cons N) mixed Try.func32 (impl_replace.ls N) rfl rfl ?_
  intro ds R k y h
  cases ds with
  | nil => exact none_some h
  | cons d0 ds =>
  cases ds with
  | nil => exact none_some h
  | cons d1 ds =>
  cases ds with
  | nil => exact none_some h
  | cons d2 ds =>
  cases ds with
  | nil => exact none_some h
  | cons d3 ds =>
  cases ds with
  | cons _ _ => exact none_some h
  | nil =>
  have h0 : (castDm (.pair (.sl 2 (.int .i64)) (.pair (.int .i64) (.pair (.int .i64) .unit))) .imm d0 fun x0 => castDm (.int .i64) .imm d1 fun x1 => castDm (.int .i64) .imm d2 fun x2 => castDm (.sl 2 (.int .i64)) .imm d3 fun x3 => bindO (impl_replace N x0 x1 x2 x3) fun r => k [⟨(.pair (.pair (.sl 2 (.int .i64)) (.pair (.int .i64) (.pair (.int .i64) .unit))) (.pair (.sl 2 (.int .i64)) (.pair (.int .i64) .unit))), (.pr (.pr (.own .imm) .imm) (.pr (.own .imm) .imm)), r⟩] []) = some y := h
  clear h
  obtain ⟨x0, rfl, h1⟩ := castDm_eq h0
  obtain ⟨x1, rfl, h2⟩ := castDm_eq h1
  obtain ⟨x2, rfl, h3⟩ := castDm_eq h2
  obtain ⟨x3, rfl, h4⟩ := castDm_eq h3
  exact con_fin (impl_replace.b N x0 x1 x2 x3) h4
theorem impl_replace.det (N : Nat) : ConDet (impl_replace.con N) := by
  intro ds R k y h
  cases ds with
  | nil => exact none_some h
  | cons d0 ds =>
  cases ds with
  | nil => exact none_some h
  | cons d1 ds =>
  cases ds with
  | nil => exact none_some h
  | cons d2 ds =>
  cases ds with
  | nil => exact none_some h
  | cons d3 ds =>
  cases ds with
  | cons _ _ => exact none_some h
  | nil =>
  have h0 : (castDm (.pair (.sl 2 (.int .i64)) (.pair (.int .i64) (.pair (.int .i64) .unit))) .imm d0 fun x0 => castDm (.int .i64) .imm d1 fun x1 => castDm (.int .i64) .imm d2 fun x2 => castDm (.sl 2 (.int .i64)) .imm d3 fun x3 => bindO (impl_replace N x0 x1 x2 x3) fun r => k [⟨(.pair (.pair (.sl 2 (.int .i64)) (.pair (.int .i64) (.pair (.int .i64) .unit))) (.pair (.sl 2 (.int .i64)) (.pair (.int .i64) .unit))), (.pr (.pr (.own .imm) .imm) (.pr (.own .imm) .imm)), r⟩] []) = some y := h
  clear h
  obtain ⟨x0, rfl, h1⟩ := castDm_eq h0
  obtain ⟨x1, rfl, h2⟩ := castDm_eq h1
  obtain ⟨x2, rfl, h3⟩ := castDm_eq h2
  obtain ⟨x3, rfl, h4⟩ := castDm_eq h3
  obtain ⟨r, e, h⟩ := bindO_some h4
  refine ⟨_, _, h, fun k' => ?_⟩
  show (castDm (.pair (.sl 2 (.int .i64)) (.pair (.int .i64) (.pair (.int .i64) .unit))) .imm (⟨(.pair (.sl 2 (.int .i64)) (.pair (.int .i64) (.pair (.int .i64) .unit))), .imm, x0⟩ : Dy) fun x0 => castDm (.int .i64) .imm (⟨(.int .i64), .imm, x1⟩ : Dy) fun x1 => castDm (.int .i64) .imm (⟨(.int .i64), .imm, x2⟩ : Dy) fun x2 => castDm (.sl 2 (.int .i64)) .imm (⟨(.sl 2 (.int .i64)), .imm, x3⟩ : Dy) fun x3 => bindO (impl_replace N x0 x1 x2 x3) fun r => k' [⟨(.pair (.pair (.sl 2 (.int .i64)) (.pair (.int .i64) (.pair (.int .i64) .unit))) (.pair (.sl 2 (.int .i64)) (.pair (.int .i64) .unit))), (.pr (.pr (.own .imm) .imm) (.pr (.own .imm) .imm)), r⟩] []) = _
  simp only [castDm_self]
  rw [e]
  rfl
noncomputable def impl_CompPut.con (N : Nat) : Con := { modes := [.v, .v], ptrs := [false], fn := fun ds k => match ds with | [d0, d1] => castDm (.pair (.sl 2 (.int .i64)) (.pair (.int .i64) (.pair (.int .i64) .unit))) .imm d0 fun x0 => castDm (.sl 23 (.sl 2 (.int .i64))) .imm d1 fun x1 => bindO (impl_CompPut N x0 x1) fun r => k [⟨(.pair (.pair (.sl 2 (.int .i64)) (.pair (.int .i64) (.pair (.int .i64) .unit))) (.pair (.sl 2 (.int .i64)) (.pair (.int .i64) .unit))), (.pr (.pr (.own .imm) .imm) (.pr (.own .imm) .imm)), r⟩] [] | _ => none }
noncomputable def impl_CompPut.cfg (N : Nat) : Cfg := { ty := tys, keep := [12, 16, 20, 24, 28, 37, 41, 54], flt := [2], elm := [(22, (.own .imm)), (23, (.own .imm)), (24, (.pr (.own .imm) .imm)), (25, (.pr (.own .imm) .imm)), (26, (.own (.own .imm))), (29, (.pr (.pr (.own .imm) .imm) (.pr (.own .imm) .imm))), (30, (.pr (.pr (.own .imm) .imm) (.pr (.own .imm) .imm))), (54, (.pr (.own .imm) .imm)), (55, (.pr (.own .imm) .imm)), (61, (.own .imm))], live := [], ord := [], con := [((25, [.one]), impl_isMany.con N), ((26, [.one]), impl_BufRight.con N), ((27, [.one]), impl_CandsRight.con N), ((28, [.one]), impl_Buf_ahead.con N), ((29, [.one, .one]), impl_matches.con N), ((31, [.one, .one]), impl_common.con N), ((30, [.one]), slices_Clone_Sint64_int64.con N), ((32, [.one, .one, .one, .one]), impl_replace.con N)], loops := [], joins := [] }
theorem impl_CompPut.cons (N : Nat) : ConsOk Try.prog (impl_CompPut.cfg N).con := (consOk_cons (hb25) (impl_isMany.ok N) (impl_isMany.det N) (consOk_cons (hb26) (impl_BufRight.ok N) (impl_BufRight.det N) (consOk_cons (hb27) (impl_CandsRight.ok N) (impl_CandsRight.det N) (consOk_cons (hb28) (impl_Buf_ahead.ok N) (impl_Buf_ahead.det N) (consOk_cons (hb29) (impl_matches.ok N) (impl_matches.det N) (consOk_cons (hb31) (impl_common.ok N) (impl_common.det N) (consOk_cons (hb30) (slices_Clone_Sint64_int64.ok N) (slices_Clone_Sint64_int64.det N) (consOk_cons (hb32) (impl_replace.ok N) (impl_replace.det N) consOk_nil))))))))
theorem impl_CompPut.ls (N : Nat) : LoopsOk Try.prog (impl_CompPut.cfg N) (fnBody Try.f6) := loopsL (l := []) (by kernel_rfl) trivial
theorem impl_CompPut.b (N : Nat) (x0 : den (.pair (.sl 2 (.int .i64)) (.pair (.int .i64) (.pair (.int .i64) .unit)))) (x1 : den (.sl 23 (.sl 2 (.int .i64)))) : body (impl_CompPut.cfg N) N Try.f6 [.one, .one] [.v, .v] [(false, (.pr (.pr (.own .imm) .imm) (.pr (.own .imm) .imm)))] [⟨(.pair (.sl 2 (.int .i64)) (.pair (.int .i64) (.pair (.int .i64) .unit))), .imm, x0⟩, ⟨(.sl 23 (.sl 2 (.int .i64))), .imm, x1⟩] (fun r i => some (r, i)) = bindO (impl_CompPut N x0 x1) fun r => some ([⟨(.pair (.pair (.sl 2 (.int .i64)) (.pair (.int .i64) (.pair (.int .i64) .unit))) (.pair (.sl 2 (.int .i64)) (.pair (.int .i64) .unit))), (.pr (.pr (.own .imm) .imm) (.pr (.own .imm) .imm)), r⟩], []) := by
  show _ = bindF _ _
  conv => rhs; simp only [impl_CompPut, bindF_ifB, bindF_bindO, bindF_pure, bindF_none, bindF_onSum]
  kernel_rfl
theorem impl_CompPut.ok (N : Nat) : ConOk Try.prog 6 [.one, .one] (impl_CompPut.con N) := by
  refine conOk_mk (g := impl_CompPut.cfg N) (N := N) (res := [(false, (.pr (.pr (.own .imm) .imm) (.pr (.own .imm) .imm)))]) tys_ok (impl_CompPut.cons N) mixed Try.func6 (impl_CompPut.ls N) rfl rfl ?_
  intro ds R k y h
  cases ds with
  | nil => exact none_some h
  | cons d0 ds =>
  cases ds with
  | nil => exact none_some h
  | cons d1 ds =>
  cases ds with
  | cons _ _ => exact none_some h
  | nil =>
  have h0 : (castDm (.pair (.sl 2 (.int .i64)) (.pair (.int .i64) (.pair (.int .i64) .unit))) .imm d0 fun x0 => castDm (.sl 23 (.sl 2 (.int .i64))) .imm d1 fun x1 => bindO (impl_CompPut N x0 x1) fun r => k [⟨(.pair (.pair (.sl 2 (.int .i64)) (.pair (.int .i64) (.pair (.int .i64) .unit))) (.pair (.sl 2 (.int .i64)) (.pair (.int .i64) .unit))), (.pr (.pr (.own .imm) .imm) (.pr (.own .imm) .imm)), r⟩] []) = some y := h
  clear h
  obtain ⟨x0, rfl, h1⟩ := castDm_eq h0
  obtain ⟨x1, rfl, h2⟩ := castDm_eq h1
  exact con_fin (impl_CompPut.b N x0 x1) h2
theorem impl_CompPut.det (N : Nat) : ConDet (impl_CompPut.con N) := by
  intro ds R k y h
  cases ds with
  | nil => exact none_some h
  | cons d0 ds =>
  cases ds with
  | nil => exact none_some h
  | cons d1 ds =>
  cases ds with
  | cons _ _ => exact none_some h
  | nil =>
  have h0 : (castDm (.pair (.sl 2 (.int .i64)) (.pair (.int .i64) (.pair (.int .i64) .unit))) .imm d0 fun x0 => castDm (.sl 23 (.sl 2 (.int .i64))) .imm d1 fun x1 => bindO (impl_CompPut N x0 x1) fun r => k [⟨(.pair (.pair (.sl 2 (.int .i64)) (.pair (.int .i64) (.pair (.int .i64) .unit))) (.pair (.sl 2 (.int .i64)) (.pair (.int .i64) .unit))), (.pr (.pr (.own .imm) .imm) (.pr (.own .imm) .imm)), r⟩] []) = some y := h
  clear h
  obtain ⟨x0, rfl, h1⟩ := castDm_eq h0
  obtain ⟨x1, rfl, h2⟩ := castDm_eq h1
  obtain ⟨r, e, h⟩ := bindO_some h2
  refine ⟨_, _, h, fun k' => ?_⟩
  show (castDm (.pair (.sl 2 (.int .i64)) (.pair (.int .i64) (.pair (.int .i64) .unit))) .imm (⟨(.pair (.sl 2 (.int .i64)) (.pair (.int .i64) (.pair (.int .i64) .unit))), .imm, x0⟩ : Dy) fun x0 => castDm (.sl 23 (.sl 2 (.int .i64))) .imm (⟨(.sl 23 (.sl 2 (.int .i64))), .imm, x1⟩ : Dy) fun x1 => bindO (impl_CompPut N x0 x1) fun r => k' [⟨(.pair (.pair (.sl 2 (.int .i64)) (.pair (.int .i64) (.pair (.int .i64) .unit))) (.pair (.sl 2 (.int .i64)) (.pair (.int .i64) .unit))), (.pr (.pr (.own .imm) .imm) (.pr (.own .imm) .imm)), r⟩] []) = _
  simp only [castDm_self]
  rw [e]
  rfl
noncomputable def impl_WordAhead.con (N : Nat) : Con := { modes := [.v], ptrs := [false], fn := fun ds k => match ds with | [d0] => castDm (.pair (.sl 2 (.int .i64)) (.pair (.int .i64) (.pair (.int .i64) .unit))) .imm d0 fun x0 => bindO (impl_WordAhead N x0) fun r => k [⟨(.sl 2 (.int .i64)), (.own .imm), r⟩] [] | _ => none }
noncomputable def impl_WordAhead.cfg (N : Nat) : Cfg := { ty := tys, keep := [4, 6, 7], flt := [], elm := [(22, (.own .imm)), (23, (.own .imm)), (24, (.pr (.own .imm) .imm)), (25, (.pr (.own .imm) .imm)), (26, (.own (.own .imm))), (29, (.pr (.pr (.own .imm) .imm) (.pr (.own .imm) .imm))), (30, (.pr (.pr (.own .imm) .imm) (.pr (.own .imm) .imm))), (54, (.pr (.own .imm) .imm)), (55, (.pr (.own .imm) .imm)), (61, (.own .imm))], live := [], ord := [], con := [((26, [.one]), impl_BufRight.con N), ((28, [.one]), impl_Buf_ahead.con N), ((30, [.one]), slices_Clone_Sint64_int64.con N)], loops := [], joins := [] }
theorem impl_WordAhead.cons (N : Nat) : ConsOk Try.prog (impl_WordAhead.cfg N).con := (consOk_cons (hb26) (impl_BufRight.ok N) (impl_BufRight.det N) (consOk_cons (hb28) (impl_Buf_ahead.ok N) (impl_Buf_ahead.det N) (consOk_cons (hb30) (slices_Clone_Sint64_int64.ok N) (slices_Clone_Sint64_int64.det N) consOk_nil)))
theorem impl_WordAhead.ls (N : Nat) : LoopsOk Try.prog (impl_WordAhead.cfg N) (fnBody Try.f8) := loopsL (l := []) (by kernel_rfl) trivial
theorem impl_WordAhead.b (N : Nat) (x0 : den (.pair (.sl 2 (.int .i64)) (.pair (.int .i64) (.pair (.int .i64) .unit)))) : body (impl_WordAhead.cfg N) N Try.f8 [.one] [.v] [(false, (.own .imm))] [⟨(.pair (.sl 2 (.int .i64)) (.pair (.int .i64) (.pair (.int .i64) .unit))), .imm, x0⟩] (fun r i => some (r, i)) = bindO (impl_WordAhead N x0) fun r => some ([⟨(.sl 2 (.int .i64)), (.own .imm), r⟩], []) := by
  show _ = bindF _ _
  conv => rhs; simp only [impl_WordAhead, bindF_ifB, bindF_bindO, bindF_pure, bindF_none, bindF_onSum]
  kernel_rfl
theorem impl_WordAhead.ok (N : Nat) : ConOk Try.prog 8 [.one] (impl_WordAhead.con N) := by
  refine conOk_mk (g := impl_WordAhead.cfg N) (N := N) (res := [(false, (.own .imm))]) tys_ok (impl_WordAhead.cons N) mixed Try.func8 (impl_WordAhead.ls N) rfl rfl ?_
  intro ds R k y h
  cases ds with
  | nil => exact none_some h
  | cons d0 ds =>
  cases ds with
  | cons _ _ => exact none_some h
  | nil =>
  have h0 : (castDm (.pair (.sl 2 (.int .i64)) (.pair (.int .i64) (.pair (.int .i64) .unit))) .imm d0 fun x0 => bindO (impl_WordAhead N x0) fun r => k [⟨(.sl 2 (.int .i64)), (.own .imm), r⟩] []) = some y := h
  clear h
  obtain ⟨x0, rfl, h1⟩ := castDm_eq h0
  exact con_fin (impl_WordAhead.b N x0) h1
theorem impl_WordAhead.det (N : Nat) : ConDet (impl_WordAhead.con N) := by
  intro ds R k y h
  cases ds with
  | nil => exact none_some h
  | cons d0 ds =>
  cases ds with
  | cons _ _ => exact none_some h
  | nil =>
  have h0 : (castDm (.pair (.sl 2 (.int .i64)) (.pair (.int .i64) (.pair (.int .i64) .unit))) .imm d0 fun x0 => bindO (impl_WordAhead N x0) fun r => k [⟨(.sl 2 (.int .i64)), (.own .imm), r⟩] []) = some y := h
  clear h
  obtain ⟨x0, rfl, h1⟩ := castDm_eq h0
  obtain ⟨r, e, h⟩ := bindO_some h1
  refine ⟨_, _, h, fun k' => ?_⟩
  show (castDm (.pair (.sl 2 (.int .i64)) (.pair (.int .i64) (.pair (.int .i64) .unit))) .imm (⟨(.pair (.sl 2 (.int .i64)) (.pair (.int .i64) (.pair (.int .i64) .unit))), .imm, x0⟩ : Dy) fun x0 => bindO (impl_WordAhead N x0) fun r => k' [⟨(.sl 2 (.int .i64)), (.own .imm), r⟩] []) = _
  simp only [castDm_self]
  rw [e]
  rfl
noncomputable def impl_compAsked.con (N : Nat) : Con := { modes := [.v, .v], ptrs := [false], fn := fun ds k => match ds with | [d0, d1] => castDm (.sl 23 (.sl 2 (.int .i64))) .imm d0 fun x0 => castDm (.sl 2 (.int .i64)) .imm d1 fun x1 => bindO (impl_compAsked N x0 x1) fun r => k [⟨.bool, .imm, r⟩] [] | _ => none }
noncomputable def impl_compAsked.cfg (N : Nat) : Cfg := { ty := tys, keep := [7, 12, 17, 21], flt := [], elm := [(22, (.own .imm)), (23, (.own .imm)), (24, (.pr (.own .imm) .imm)), (25, (.pr (.own .imm) .imm)), (26, (.own (.own .imm))), (29, (.pr (.pr (.own .imm) .imm) (.pr (.own .imm) .imm))), (30, (.pr (.pr (.own .imm) .imm) (.pr (.own .imm) .imm))), (54, (.pr (.own .imm) .imm)), (55, (.pr (.own .imm) .imm)), (61, (.own .imm))], live := [], ord := [], con := [((25, [.one]), impl_isMany.con N), ((27, [.one]), impl_CandsRight.con N), ((34, [.one]), impl_PointsRight.con N)], loops := [], joins := [] }
theorem impl_compAsked.cons (N : Nat) : ConsOk Try.prog (impl_compAsked.cfg N).con := (consOk_cons (hb25) (impl_isMany.ok N) (impl_isMany.det N) (consOk_cons (hb27) (impl_CandsRight.ok N) (impl_CandsRight.det N) (consOk_cons (hb34) (impl_PointsRight.ok N) (impl_PointsRight.det N) consOk_nil)))
theorem impl_compAsked.ls (N : Nat) : LoopsOk Try.prog (impl_compAsked.cfg N) (fnBody Try.f33) := loopsL (l := []) (by kernel_rfl) trivial
theorem impl_compAsked.b (N : Nat) (x0 : den (.sl 23 (.sl 2 (.int .i64)))) (x1 : den (.sl 2 (.int .i64))) : body (impl_compAsked.cfg N) N Try.f33 [.one, .one] [.v, .v] [(false, .imm)] [⟨(.sl 23 (.sl 2 (.int .i64))), .imm, x0⟩, ⟨(.sl 2 (.int .i64)), .imm, x1⟩] (fun r i => some (r, i)) = bindO (impl_compAsked N x0 x1) fun r => some ([⟨.bool, .imm, r⟩], []) := by
  show _ = bindF _ _
  conv => rhs; simp only [impl_compAsked, bindF_ifB, bindF_bindO, bindF_pure, bindF_none, bindF_onSum]
  kernel_rfl
theorem impl_compAsked.ok (N : Nat) : ConOk Try.prog 33 [.one, .one] (impl_compAsked.con N) := by
  refine conOk_mk (g := impl_compAsked.cfg N) (N := N) (res := [(false, .imm)]) tys_ok (impl_compAsked.cons N) mixed Try.func33 (impl_compAsked.ls N) rfl rfl ?_
  intro ds R k y h
  cases ds with
  | nil => exact none_some h
  | cons d0 ds =>
  cases ds with
  | nil => exact none_some h
  | cons d1 ds =>
  cases ds with
  | cons _ _ => exact none_some h
  | nil =>
  have h0 : (castDm (.sl 23 (.sl 2 (.int .i64))) .imm d0 fun x0 => castDm (.sl 2 (.int .i64)) .imm d1 fun x1 => bindO (impl_compAsked N x0 x1) fun r => k [⟨.bool, .imm, r⟩] []) = some y := h
  clear h
  obtain ⟨x0, rfl, h1⟩ := castDm_eq h0
  obtain ⟨x1, rfl, h2⟩ := castDm_eq h1
  exact con_fin (impl_compAsked.b N x0 x1) h2
theorem impl_compAsked.det (N : Nat) : ConDet (impl_compAsked.con N) := by
  intro ds R k y h
  cases ds with
  | nil => exact none_some h
  | cons d0 ds =>
  cases ds with
  | nil => exact none_some h
  | cons d1 ds =>
  cases ds with
  | cons _ _ => exact none_some h
  | nil =>
  have h0 : (castDm (.sl 23 (.sl 2 (.int .i64))) .imm d0 fun x0 => castDm (.sl 2 (.int .i64)) .imm d1 fun x1 => bindO (impl_compAsked N x0 x1) fun r => k [⟨.bool, .imm, r⟩] []) = some y := h
  clear h
  obtain ⟨x0, rfl, h1⟩ := castDm_eq h0
  obtain ⟨x1, rfl, h2⟩ := castDm_eq h1
  obtain ⟨r, e, h⟩ := bindO_some h2
  refine ⟨_, _, h, fun k' => ?_⟩
  show (castDm (.sl 23 (.sl 2 (.int .i64))) .imm (⟨(.sl 23 (.sl 2 (.int .i64))), .imm, x0⟩ : Dy) fun x0 => castDm (.sl 2 (.int .i64)) .imm (⟨(.sl 2 (.int .i64)), .imm, x1⟩ : Dy) fun x1 => bindO (impl_compAsked N x0 x1) fun r => k' [⟨.bool, .imm, r⟩] []) = _
  simp only [castDm_self]
  rw [e]
  rfl
noncomputable def impl_CompMatch.con (N : Nat) : Con := { modes := [.v, .v], ptrs := [false], fn := fun ds k => match ds with | [d0, d1] => castDm (.sl 23 (.sl 2 (.int .i64))) .imm d0 fun x0 => castDm (.sl 2 (.int .i64)) .imm d1 fun x1 => bindO (impl_CompMatch N x0 x1) fun r => k [⟨(.sl 2 (.int .i64)), (.own .imm), r⟩] [] | _ => none }
noncomputable def impl_CompMatch.cfg (N : Nat) : Cfg := { ty := tys, keep := [9, 14], flt := [], elm := [(22, (.own .imm)), (23, (.own .imm)), (24, (.pr (.own .imm) .imm)), (25, (.pr (.own .imm) .imm)), (26, (.own (.own .imm))), (29, (.pr (.pr (.own .imm) .imm) (.pr (.own .imm) .imm))), (30, (.pr (.pr (.own .imm) .imm) (.pr (.own .imm) .imm))), (54, (.pr (.own .imm) .imm)), (55, (.pr (.own .imm) .imm)), (61, (.own .imm))], live := [], ord := [], con := [((33, [.one, .one]), impl_compAsked.con N), ((29, [.one, .one]), impl_matches.con N)], loops := [], joins := [] }
theorem impl_CompMatch.cons (N : Nat) : ConsOk Try.prog (impl_CompMatch.cfg N).con := (consOk_cons (hb33) (impl_compAsked.ok N) (impl_compAsked.det N) (consOk_cons (hb29) (impl_matches.ok N) (impl_matches.det N) consOk_nil))
theorem impl_CompMatch.ls (N : Nat) : LoopsOk Try.prog (impl_CompMatch.cfg N) (fnBody Try.f9) := loopsL (l := []) (by kernel_rfl) trivial
theorem impl_CompMatch.b (N : Nat) (x0 : den (.sl 23 (.sl 2 (.int .i64)))) (x1 : den (.sl 2 (.int .i64))) : body (impl_CompMatch.cfg N) N Try.f9 [.one, .one] [.v, .v] [(false, (.own .imm))] [⟨(.sl 23 (.sl 2 (.int .i64))), .imm, x0⟩, ⟨(.sl 2 (.int .i64)), .imm, x1⟩] (fun r i => some (r, i)) = bindO (impl_CompMatch N x0 x1) fun r => some ([⟨(.sl 2 (.int .i64)), (.own .imm), r⟩], []) := by
  show _ = bindF _ _
  conv => rhs; simp only [impl_CompMatch, bindF_ifB, bindF_bindO, bindF_pure, bindF_none, bindF_onSum]
  kernel_rfl
theorem impl_CompMatch.ok (N : Nat) : ConOk Try.prog 9 [.one, .one] (impl_CompMatch.con N) := by
  refine conOk_mk (g := impl_CompMatch.cfg N) (N := N) (res := [(false, (.own .imm))]) tys_ok (impl_CompMatch.cons N) mixed Try.func9 (impl_CompMatch.ls N) rfl rfl ?_
  intro ds R k y h
  cases ds with
  | nil => exact none_some h
  | cons d0 ds =>
  cases ds with
  | nil => exact none_some h
  | cons d1 ds =>
  cases ds with
  | cons _ _ => exact none_some h
  | nil =>
  have h0 : (castDm (.sl 23 (.sl 2 (.int .i64))) .imm d0 fun x0 => castDm (.sl 2 (.int .i64)) .imm d1 fun x1 => bindO (impl_CompMatch N x0 x1) fun r => k [⟨(.sl 2 (.int .i64)), (.own .imm), r⟩] []) = some y := h
  clear h
  obtain ⟨x0, rfl, h1⟩ := castDm_eq h0
  obtain ⟨x1, rfl, h2⟩ := castDm_eq h1
  exact con_fin (impl_CompMatch.b N x0 x1) h2
theorem impl_CompMatch.det (N : Nat) : ConDet (impl_CompMatch.con N) := by
  intro ds R k y h
  cases ds with
  | nil => exact none_some h
  | cons d0 ds =>
  cases ds with
  | nil => exact none_some h
  | cons d1 ds =>
  cases ds with
  | cons _ _ => exact none_some h
  | nil =>
  have h0 : (castDm (.sl 23 (.sl 2 (.int .i64))) .imm d0 fun x0 => castDm (.sl 2 (.int .i64)) .imm d1 fun x1 => bindO (impl_CompMatch N x0 x1) fun r => k [⟨(.sl 2 (.int .i64)), (.own .imm), r⟩] []) = some y := h
  clear h
  obtain ⟨x0, rfl, h1⟩ := castDm_eq h0
  obtain ⟨x1, rfl, h2⟩ := castDm_eq h1
  obtain ⟨r, e, h⟩ := bindO_some h2
  refine ⟨_, _, h, fun k' => ?_⟩
  show (castDm (.sl 23 (.sl 2 (.int .i64))) .imm (⟨(.sl 23 (.sl 2 (.int .i64))), .imm, x0⟩ : Dy) fun x0 => castDm (.sl 2 (.int .i64)) .imm (⟨(.sl 2 (.int .i64)), .imm, x1⟩ : Dy) fun x1 => bindO (impl_CompMatch N x0 x1) fun r => k' [⟨(.sl 2 (.int .i64)), (.own .imm), r⟩] []) = _
  simp only [castDm_self]
  rw [e]
  rfl
noncomputable def impl_CompCommon.con (N : Nat) : Con := { modes := [.v, .v], ptrs := [false], fn := fun ds k => match ds with | [d0, d1] => castDm (.sl 23 (.sl 2 (.int .i64))) .imm d0 fun x0 => castDm (.sl 2 (.int .i64)) .imm d1 fun x1 => bindO (impl_CompCommon N x0 x1) fun r => k [⟨(.sl 2 (.int .i64)), (.own .imm), r⟩] [] | _ => none }
noncomputable def impl_CompCommon.cfg (N : Nat) : Cfg := { ty := tys, keep := [8, 11, 16, 19, 22, 23], flt := [], elm := [(22, (.own .imm)), (23, (.own .imm)), (24, (.pr (.own .imm) .imm)), (25, (.pr (.own .imm) .imm)), (26, (.own (.own .imm))), (29, (.pr (.pr (.own .imm) .imm) (.pr (.own .imm) .imm))), (30, (.pr (.pr (.own .imm) .imm) (.pr (.own .imm) .imm))), (54, (.pr (.own .imm) .imm)), (55, (.pr (.own .imm) .imm)), (61, (.own .imm))], live := [], ord := [], con := [((25, [.one]), impl_isMany.con N), ((34, [.one]), impl_PointsRight.con N), ((27, [.one]), impl_CandsRight.con N), ((30, [.one]), slices_Clone_Sint64_int64.con N), ((31, [.one, .one]), impl_common.con N)], loops := [], joins := [] }
theorem impl_CompCommon.cons (N : Nat) : ConsOk Try.prog (impl_CompCommon.cfg N).con := (consOk_cons (hb25) (impl_isMany.ok N) (impl_isMany.det N) (consOk_cons (hb34) (impl_PointsRight.ok N) (impl_PointsRight.det N) (consOk_cons (hb27) (impl_CandsRight.ok N) (impl_CandsRight.det N) (consOk_cons (hb30) (slices_Clone_Sint64_int64.ok N) (slices_Clone_Sint64_int64.det N) (consOk_cons (hb31) (impl_common.ok N) (impl_common.det N) consOk_nil)))))
theorem impl_CompCommon.ls (N : Nat) : LoopsOk Try.prog (impl_CompCommon.cfg N) (fnBody Try.f12) := loopsL (l := []) (by kernel_rfl) trivial
theorem impl_CompCommon.b (N : Nat) (x0 : den (.sl 23 (.sl 2 (.int .i64)))) (x1 : den (.sl 2 (.int .i64))) : body (impl_CompCommon.cfg N) N Try.f12 [.one, .one] [.v, .v] [(false, (.own .imm))] [⟨(.sl 23 (.sl 2 (.int .i64))), .imm, x0⟩, ⟨(.sl 2 (.int .i64)), .imm, x1⟩] (fun r i => some (r, i)) = bindO (impl_CompCommon N x0 x1) fun r => some ([⟨(.sl 2 (.int .i64)), (.own .imm), r⟩], []) := by
  show _ = bindF _ _
  conv => rhs; simp only [impl_CompCommon, bindF_ifB, bindF_bindO, bindF_pure, bindF_none, bindF_onSum]
  kernel_rfl
theorem impl_CompCommon.ok (N : Nat) : ConOk Try.prog 12 [.one, .one] (impl_CompCommon.con N) := by
  refine conOk_mk (g := impl_CompCommon.cfg N) (N := N) (res := [(false, (.own .imm))]) tys_ok (impl_CompCommon.cons N) mixed Try.func12 (impl_CompCommon.ls N) rfl rfl ?_
  intro ds R k y h
  cases ds with
  | nil => exact none_some h
  | cons d0 ds =>
  cases ds with
  | nil => exact none_some h
  | cons d1 ds =>
  cases ds with
  | cons _ _ => exact none_some h
  | nil =>
  have h0 : (castDm (.sl 23 (.sl 2 (.int .i64))) .imm d0 fun x0 => castDm (.sl 2 (.int .i64)) .imm d1 fun x1 => bindO (impl_CompCommon N x0 x1) fun r => k [⟨(.sl 2 (.int .i64)), (.own .imm), r⟩] []) = some y := h
  clear h
  obtain ⟨x0, rfl, h1⟩ := castDm_eq h0
  obtain ⟨x1, rfl, h2⟩ := castDm_eq h1
  exact con_fin (impl_CompCommon.b N x0 x1) h2
theorem impl_CompCommon.det (N : Nat) : ConDet (impl_CompCommon.con N) := by
  intro ds R k y h
  cases ds with
  | nil => exact none_some h
  | cons d0 ds =>
  cases ds with
  | nil => exact none_some h
  | cons d1 ds =>
  cases ds with
  | cons _ _ => exact none_some h
  | nil =>
  have h0 : (castDm (.sl 23 (.sl 2 (.int .i64))) .imm d0 fun x0 => castDm (.sl 2 (.int .i64)) .imm d1 fun x1 => bindO (impl_CompCommon N x0 x1) fun r => k [⟨(.sl 2 (.int .i64)), (.own .imm), r⟩] []) = some y := h
  clear h
  obtain ⟨x0, rfl, h1⟩ := castDm_eq h0
  obtain ⟨x1, rfl, h2⟩ := castDm_eq h1
  obtain ⟨r, e, h⟩ := bindO_some h2
  refine ⟨_, _, h, fun k' => ?_⟩
  show (castDm (.sl 23 (.sl 2 (.int .i64))) .imm (⟨(.sl 23 (.sl 2 (.int .i64))), .imm, x0⟩ : Dy) fun x0 => castDm (.sl 2 (.int .i64)) .imm (⟨(.sl 2 (.int .i64)), .imm, x1⟩ : Dy) fun x1 => bindO (impl_CompCommon N x0 x1) fun r => k' [⟨(.sl 2 (.int .i64)), (.own .imm), r⟩] []) = _
  simp only [castDm_self]
  rw [e]
  rfl
def laws_lwSame.sk4 : Skel := ⟨[.pv (.sl 2 (.int .i64)), .pv (.sl 2 (.int .i64)), .dead, .dead, .dead, .pv (.int .i64), .dead, .dead, .dead, .dead, .dead, .dead, .dead, .dead, .dead, .dead, .dead, .dead, .dead, .dead, .dead, .dead, .dead, .dead, .dead, .dead], []⟩
def laws_lwSame.xs4 : List XS := [⟨.exit 0, [], ⟨[.dead, .dead, .dead, .dead, .dead, .dead, .dead, .dead, .dead, .dead, .dead, .dead, .dead, .dead, .dead, .dead, .dead, .dead, .dead, .dead, .dead, .dead, .dead, .dead, .dead, .dead], []⟩⟩, ⟨.ret, [4], ⟨[.dead, .dead, .dead, .dead, .pv .bool, .dead, .dead, .dead, .dead, .dead, .dead, .dead, .dead, .dead, .dead, .dead, .dead, .dead, .dead, .dead, .dead, .dead, .dead, .dead, .dead, .dead], []⟩⟩]
noncomputable def laws_lwSame.con (N : Nat) : Con := { modes := [.v, .v], ptrs := [false], fn := fun ds k => match ds with | [d0, d1] => castDm (.sl 2 (.int .i64)) .imm d0 fun x0 => castDm (.sl 2 (.int .i64)) .imm d1 fun x1 => bindO (laws_lwSame N x0 x1) fun r => k [⟨.bool, .imm, r⟩] [] | _ => none }
noncomputable def laws_lwSame.cfg (N : Nat) : Cfg := { ty := tys, keep := [], flt := [], elm := [(22, (.own .imm)), (23, (.own .imm)), (24, (.pr (.own .imm) .imm)), (25, (.pr (.own .imm) .imm)), (26, (.own (.own .imm))), (29, (.pr (.pr (.own .imm) .imm) (.pr (.own .imm) .imm))), (30, (.pr (.pr (.own .imm) .imm) (.pr (.own .imm) .imm))), (54, (.pr (.own .imm) .imm)), (55, (.pr (.own .imm) .imm)), (61, (.own .imm))], live := [(4, [0, 1, 5])], ord := [(6, [0, 1, 2, 3, 4, 5, 6, 7, 8])], con := [], loops := [(4, loopCon N laws_lwSame.sk4 laws_lwSame.xs4 (fun {R} => laws_lwSame.l4 (R := R) N))], joins := [] }
theorem laws_lwSame.cons (N : Nat) : ConsOk Try.prog (laws_lwSame.cfg N).con := consOk_nil
theorem laws_lwSame.h4 {R : Type} (N : Nat) (d : laws_lwSame.sk4.D) (kn : laws_lwSame.sk4.D → Option R) (kx : XD laws_lwSame.xs4 → Option R) : roundK (laws_lwSame.cfg N) N (nthLoop (fnBody Try.f11) 0) laws_lwSame.sk4 laws_lwSame.xs4 d kn kx = laws_lwSame.l4 N d kn kx := by kernel_rfl
theorem laws_lwSame.i4 (N : Nat) : LoopsOk Try.prog (laws_lwSame.cfg N) (nthLoop (fnBody Try.f11) 0) := loopsL (l := []) (by kernel_rfl) trivial
theorem laws_lwSame.o4 (N : Nat) : LoopOk Try.prog (nthLoop (fnBody Try.f11) 0) (loopCon N laws_lwSame.sk4 laws_lwSame.xs4 (fun {R} => laws_lwSame.l4 (R := R) N)) := loop_ok (g := laws_lwSame.cfg N) tys_ok (laws_lwSame.cons N) mixed (laws_lwSame.i4 N) (fun d kn kx => laws_lwSame.h4 N d kn kx)
theorem laws_lwSame.ls (N : Nat) : LoopsOk Try.prog (laws_lwSame.cfg N) (fnBody Try.f11) := loopsL (l := [nthLoop (fnBody Try.f11) 0]) (by kernel_rfl) ⟨loopOne (L0 := loopCon N laws_lwSame.sk4 laws_lwSame.xs4 (fun {R} => laws_lwSame.l4 (R := R) N)) (id := 4) (by kernel_rfl) (by kernel_rfl) (laws_lwSame.o4 N), trivial⟩
theorem laws_lwSame.q4 {R R' : Type} {N n : Nat} {d} {k} {g : R → Option R'} : bindF (loopP (laws_lwSame.l4 N) n d k) g = loopP (laws_lwSame.l4 N) n d fun e => bindF (k e) g := bindF_loopP (fun d kn kx => by simp only [laws_lwSame.l4, bindF_ifB, bindF_bindO, bindF_pure, bindF_none, bindF_onSum]) n d k
theorem laws_lwSame.b (N : Nat) (x0 : den (.sl 2 (.int .i64))) (x1 : den (.sl 2 (.int .i64))) : body (laws_lwSame.cfg N) N Try.f11 [.one, .one] [.v, .v] [(false, .imm)] [⟨(.sl 2 (.int .i64)), .imm, x0⟩, ⟨(.sl 2 (.int .i64)), .imm, x1⟩] (fun r i => some (r, i)) = bindO (laws_lwSame N x0 x1) fun r => some ([⟨.bool, .imm, r⟩], []) := by
  show _ = bindF _ _
  conv => rhs; simp only [laws_lwSame, bindF_ifB, bindF_bindO, bindF_pure, bindF_none, bindF_onSum, laws_lwSame.q4]
  kernel_rfl
theorem laws_lwSame.ok (N : Nat) : ConOk Try.prog 11 [.one, .one] (laws_lwSame.con N) := by
  refine conOk_mk (g := laws_lwSame.cfg N) (N := N) (res := [(false, .imm)]) tys_ok (laws_lwSame.cons N) mixed Try.func11 (laws_lwSame.ls N) rfl rfl ?_
  intro ds R k y h
  cases ds with
  | nil => exact none_some h
  | cons d0 ds =>
  cases ds with
  | nil => exact none_some h
  | cons d1 ds =>
  cases ds with
  | cons _ _ => exact none_some h
  | nil =>
  have h0 : (castDm (.sl 2 (.int .i64)) .imm d0 fun x0 => castDm (.sl 2 (.int .i64)) .imm d1 fun x1 => bindO (laws_lwSame N x0 x1) fun r => k [⟨.bool, .imm, r⟩] []) = some y := h
  clear h
  obtain ⟨x0, rfl, h1⟩ := castDm_eq h0
  obtain ⟨x1, rfl, h2⟩ := castDm_eq h1
  exact con_fin (laws_lwSame.b N x0 x1) h2
theorem laws_lwSame.det (N : Nat) : ConDet (laws_lwSame.con N) := by
  intro ds R k y h
  cases ds with
  | nil => exact none_some h
  | cons d0 ds =>
  cases ds with
  | nil => exact none_some h
  | cons d1 ds =>
  cases ds with
  | cons _ _ => exact none_some h
  | nil =>
  have h0 : (castDm (.sl 2 (.int .i64)) .imm d0 fun x0 => castDm (.sl 2 (.int .i64)) .imm d1 fun x1 => bindO (laws_lwSame N x0 x1) fun r => k [⟨.bool, .imm, r⟩] []) = some y := h
  clear h
  obtain ⟨x0, rfl, h1⟩ := castDm_eq h0
  obtain ⟨x1, rfl, h2⟩ := castDm_eq h1
  obtain ⟨r, e, h⟩ := bindO_some h2
  refine ⟨_, _, h, fun k' => ?_⟩
  show (castDm (.sl 2 (.int .i64)) .imm (⟨(.sl 2 (.int .i64)), .imm, x0⟩ : Dy) fun x0 => castDm (.sl 2 (.int .i64)) .imm (⟨(.sl 2 (.int .i64)), .imm, x1⟩ : Dy) fun x1 => bindO (laws_lwSame N x0 x1) fun r => k' [⟨.bool, .imm, r⟩] []) = _
  simp only [castDm_self]
  rw [e]
  rfl
noncomputable def laws_lwBuf.con (N : Nat) : Con := { modes := [.v, .v], ptrs := [false], fn := fun ds k => match ds with | [d0, d1] => castDm (.pair (.sl 2 (.int .i64)) (.pair (.int .i64) (.pair (.int .i64) .unit))) .imm d0 fun x0 => castDm (.pair (.sl 2 (.int .i64)) (.pair (.int .i64) (.pair (.int .i64) .unit))) .imm d1 fun x1 => bindO (laws_lwBuf N x0 x1) fun r => k [⟨.bool, .imm, r⟩] [] | _ => none }
noncomputable def laws_lwBuf.cfg (N : Nat) : Cfg := { ty := tys, keep := [9], flt := [], elm := [(22, (.own .imm)), (23, (.own .imm)), (24, (.pr (.own .imm) .imm)), (25, (.pr (.own .imm) .imm)), (26, (.own (.own .imm))), (29, (.pr (.pr (.own .imm) .imm) (.pr (.own .imm) .imm))), (30, (.pr (.pr (.own .imm) .imm) (.pr (.own .imm) .imm))), (54, (.pr (.own .imm) .imm)), (55, (.pr (.own .imm) .imm)), (61, (.own .imm))], live := [], ord := [], con := [((11, [.one, .one]), laws_lwSame.con N)], loops := [], joins := [] }
theorem laws_lwBuf.cons (N : Nat) : ConsOk Try.prog (laws_lwBuf.cfg N).con := (consOk_cons (hb11) (laws_lwSame.ok N) (laws_lwSame.det N) consOk_nil)
theorem laws_lwBuf.ls (N : Nat) : LoopsOk Try.prog (laws_lwBuf.cfg N) (fnBody Try.f13) := loopsL (l := []) (by kernel_rfl) trivial
theorem laws_lwBuf.b (N : Nat) (x0 : den (.pair (.sl 2 (.int .i64)) (.pair (.int .i64) (.pair (.int .i64) .unit)))) (x1 : den (.pair (.sl 2 (.int .i64)) (.pair (.int .i64) (.pair (.int .i64) .unit)))) : body (laws_lwBuf.cfg N) N Try.f13 [.one, .one] [.v, .v] [(false, .imm)] [⟨(.pair (.sl 2 (.int .i64)) (.pair (.int .i64) (.pair (.int .i64) .unit))), .imm, x0⟩, ⟨(.pair (.sl 2 (.int .i64)) (.pair (.int .i64) (.pair (.int .i64) .unit))), .imm, x1⟩] (fun r i => some (r, i)) = bindO (laws_lwBuf N x0 x1) fun r => some ([⟨.bool, .imm, r⟩], []) := by
  show _ = bindF _ _
  conv => rhs; simp only [laws_lwBuf, bindF_ifB, bindF_bindO, bindF_pure, bindF_none, bindF_onSum]
  kernel_rfl
theorem laws_lwBuf.ok (N : Nat) : ConOk Try.prog 13 [.one, .one] (laws_lwBuf.con N) := by
  refine conOk_mk (g := laws_lwBuf.cfg N) (N := N) (res := [(false, .imm)]) tys_ok (laws_lwBuf.cons N) mixed Try.func13 (laws_lwBuf.ls N) rfl rfl ?_
  intro ds R k y h
  cases ds with
  | nil => exact none_some h
  | cons d0 ds =>
  cases ds with
  | nil => exact none_some h
  | cons d1 ds =>
  cases ds with
  | cons _ _ => exact none_some h
  | nil =>
  have h0 : (castDm (.pair (.sl 2 (.int .i64)) (.pair (.int .i64) (.pair (.int .i64) .unit))) .imm d0 fun x0 => castDm (.pair (.sl 2 (.int .i64)) (.pair (.int .i64) (.pair (.int .i64) .unit))) .imm d1 fun x1 => bindO (laws_lwBuf N x0 x1) fun r => k [⟨.bool, .imm, r⟩] []) = some y := h
  clear h
  obtain ⟨x0, rfl, h1⟩ := castDm_eq h0
  obtain ⟨x1, rfl, h2⟩ := castDm_eq h1
  exact con_fin (laws_lwBuf.b N x0 x1) h2
theorem laws_lwBuf.det (N : Nat) : ConDet (laws_lwBuf.con N) := by
  intro ds R k y h
  cases ds with
  | nil => exact none_some h
  | cons d0 ds =>
  cases ds with
  | nil => exact none_some h
  | cons d1 ds =>
  cases ds with
  | cons _ _ => exact none_some h
  | nil =>
  have h0 : (castDm (.pair (.sl 2 (.int .i64)) (.pair (.int .i64) (.pair (.int .i64) .unit))) .imm d0 fun x0 => castDm (.pair (.sl 2 (.int .i64)) (.pair (.int .i64) (.pair (.int .i64) .unit))) .imm d1 fun x1 => bindO (laws_lwBuf N x0 x1) fun r => k [⟨.bool, .imm, r⟩] []) = some y := h
  clear h
  obtain ⟨x0, rfl, h1⟩ := castDm_eq h0
  obtain ⟨x1, rfl, h2⟩ := castDm_eq h1
  obtain ⟨r, e, h⟩ := bindO_some h2
  refine ⟨_, _, h, fun k' => ?_⟩
  show (castDm (.pair (.sl 2 (.int .i64)) (.pair (.int .i64) (.pair (.int .i64) .unit))) .imm (⟨(.pair (.sl 2 (.int .i64)) (.pair (.int .i64) (.pair (.int .i64) .unit))), .imm, x0⟩ : Dy) fun x0 => castDm (.pair (.sl 2 (.int .i64)) (.pair (.int .i64) (.pair (.int .i64) .unit))) .imm (⟨(.pair (.sl 2 (.int .i64)) (.pair (.int .i64) (.pair (.int .i64) .unit))), .imm, x1⟩ : Dy) fun x1 => bindO (laws_lwBuf N x0 x1) fun r => k' [⟨.bool, .imm, r⟩] []) = _
  simp only [castDm_self]
  rw [e]
  rfl
noncomputable def laws_FnCompPut.con (N : Nat) : Con := { modes := [.v], ptrs := [false], fn := fun ds k => match ds with | [d0] => castDm (.sl 5 (.int .u8)) .imm d0 fun x0 => bindO (laws_FnCompPut N x0) fun r => k [⟨.bool, .imm, r⟩] [] | _ => none }
noncomputable def laws_FnCompPut.cfg (N : Nat) : Cfg := { ty := tys, keep := [], flt := [], elm := [(22, (.own .imm)), (23, (.own .imm)), (24, (.pr (.own .imm) .imm)), (25, (.pr (.own .imm) .imm)), (26, (.own (.own .imm))), (29, (.pr (.pr (.own .imm) .imm) (.pr (.own .imm) .imm))), (30, (.pr (.pr (.own .imm) .imm) (.pr (.own .imm) .imm))), (54, (.pr (.own .imm) .imm)), (55, (.pr (.own .imm) .imm)), (61, (.own .imm))], live := [], ord := [(5, [4, 0, 1, 2, 3, 5]), (18, [0, 2, 3, 4, 5, 6, 7, 1, 8, 9, 10, 11, 12, 13, 14, 15, 16])], con := [((4, [.one]), spec_DrawCompPut.con N), ((5, [.one, .one]), spec_CompPut.con N), ((7, [.one]), laws_lwAll.con N), ((6, [.one, .one]), impl_CompPut.con N), ((8, [.one]), impl_WordAhead.con N), ((10, [.one]), laws_lwCopy.con N), ((9, [.one, .one]), impl_CompMatch.con N), ((12, [.one, .one]), impl_CompCommon.con N), ((11, [.one, .one]), laws_lwSame.con N), ((13, [.one, .one]), laws_lwBuf.con N)], loops := [], joins := [] }
theorem laws_FnCompPut.cons (N : Nat) : ConsOk Try.prog (laws_FnCompPut.cfg N).con := (consOk_cons (hb4) (spec_DrawCompPut.ok N) (spec_DrawCompPut.det N) (consOk_cons (hb5) (spec_CompPut.ok N) (spec_CompPut.det N) (consOk_cons (hb7) (laws_lwAll.ok N) (laws_lwAll.det N) (consOk_cons (hb6) (impl_CompPut.ok N) (impl_CompPut.det N) (consOk_cons (hb8) (impl_WordAhead.ok N) (impl_WordAhead.det N) (consOk_cons (hb10) (laws_lwCopy.ok N) (laws_lwCopy.det N) (consOk_cons (hb9) (impl_CompMatch.ok N) (impl_CompMatch.det N) (consOk_cons (hb12) (impl_CompCommon.ok N) (impl_CompCommon.det N) (consOk_cons (hb11) (laws_lwSame.ok N) (laws_lwSame.det N) (consOk_cons (hb13) (laws_lwBuf.ok N) (laws_lwBuf.det N) consOk_nil))))))))))
theorem laws_FnCompPut.ls (N : Nat) : LoopsOk Try.prog (laws_FnCompPut.cfg N) (fnBody Try.f3) := loopsL (l := []) (by kernel_rfl) trivial
theorem laws_FnCompPut.b (N : Nat) (x0 : den (.sl 5 (.int .u8))) : body (laws_FnCompPut.cfg N) N Try.f3 [.one] [.v] [(false, .imm)] [⟨(.sl 5 (.int .u8)), .imm, x0⟩] (fun r i => some (r, i)) = bindO (laws_FnCompPut N x0) fun r => some ([⟨.bool, .imm, r⟩], []) := by
  show _ = bindF _ _
  conv => rhs; simp only [laws_FnCompPut, bindF_ifB, bindF_bindO, bindF_pure, bindF_none, bindF_onSum]
  kernel_rfl
theorem laws_FnCompPut.ok (N : Nat) : ConOk Try.prog 3 [.one] (laws_FnCompPut.con N) := by
  refine conOk_mk (g := laws_FnCompPut.cfg N) (N := N) (res := [(false, .imm)]) tys_ok (laws_FnCompPut.cons N) mixed Try.func3 (laws_FnCompPut.ls N) rfl rfl ?_
  intro ds R k y h
  cases ds with
  | nil => exact none_some h
  | cons d0 ds =>
  cases ds with
  | cons _ _ => exact none_some h
  | nil =>
  have h0 : (castDm (.sl 5 (.int .u8)) .imm d0 fun x0 => bindO (laws_FnCompPut N x0) fun r => k [⟨.bool, .imm, r⟩] []) = some y := h
  clear h
  obtain ⟨x0, rfl, h1⟩ := castDm_eq h0
  exact con_fin (laws_FnCompPut.b N x0) h1
theorem laws_FnCompPut.det (N : Nat) : ConDet (laws_FnCompPut.con N) := by
  intro ds R k y h
  cases ds with
  | nil => exact none_some h
  | cons d0 ds =>
  cases ds with
  | cons _ _ => exact none_some h
  | nil =>
  have h0 : (castDm (.sl 5 (.int .u8)) .imm d0 fun x0 => bindO (laws_FnCompPut N x0) fun r => k [⟨.bool, .imm, r⟩] []) = some y := h
  clear h
  obtain ⟨x0, rfl, h1⟩ := castDm_eq h0
  obtain ⟨r, e, h⟩ := bindO_some h1
  refine ⟨_, _, h, fun k' => ?_⟩
  show (castDm (.sl 5 (.int .u8)) .imm (⟨(.sl 5 (.int .u8)), .imm, x0⟩ : Dy) fun x0 => bindO (laws_FnCompPut N x0) fun r => k' [⟨.bool, .imm, r⟩] []) = _
  simp only [castDm_self]
  rw [e]
  rfl
end Go.AE.F
