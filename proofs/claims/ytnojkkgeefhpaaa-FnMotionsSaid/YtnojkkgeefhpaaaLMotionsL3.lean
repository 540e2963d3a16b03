/- The printed functions are what the program comes to: contracts. -/
import Derived.Test.YtnojkkgeefhpaaaLMotionsL2
namespace Go.AE.F
open Go.AE Go.Proofs
set_option maxRecDepth 100000
def impl_Buf_end.sk1 : Skel := ⟨[.rp (.pair (.sl 2 (.int .i64)) (.pair (.int .i64) (.pair (.int .i64) .unit))), .pv (.int .i64), .dead, .dead, .dead, .dead, .dead, .dead, .dead, .dead, .dead, .dead, .dead, .dead, .dead, .dead, .dead, .dead, .dead, .dead, .dead, .dead, .dead, .dead, .dead], []⟩
def impl_Buf_end.xs1 : List XS := [⟨.exit 0, [1], ⟨[.dead, .pv (.int .i64), .dead, .dead, .dead, .dead, .dead, .dead, .dead, .dead, .dead, .dead, .dead, .dead, .dead, .dead, .dead, .dead, .dead, .dead, .dead, .dead, .dead, .dead, .dead], []⟩⟩]
noncomputable def impl_Buf_end.con (N : Nat) : Con := { modes := [.rd, .v], ptrs := [false], fn := fun ds k => match ds with | [d0, d1] => castDm (.pair (.sl 2 (.int .i64)) (.pair (.int .i64) (.pair (.int .i64) .unit))) .imm d0 fun x0 => castDm (.int .i64) .imm d1 fun x1 => bindO (impl_Buf_end N x0 x1) fun r => k [⟨(.int .i64), .imm, r⟩] [] | _ => none }
noncomputable def impl_Buf_end.cfg (N : Nat) : Cfg := { ty := tys, keep := [10], flt := [], elm := [(22, (.own .imm)), (23, (.own .imm)), (24, (.pr (.own .imm) .imm)), (25, (.pr (.own .imm) .imm)), (54, (.pr (.own .imm) .imm)), (55, (.pr (.own .imm) .imm))], live := [(1, [0, 1, 13, 14, 15, 16, 17, 18, 19, 20])], ord := [], con := [((41, [.one]), impl_size_Sint64.con N)], loops := [(1, loopCon N impl_Buf_end.sk1 impl_Buf_end.xs1 (fun {R} => impl_Buf_end.l1 (R := R) N))], joins := [] }
theorem impl_Buf_end.cons (N : Nat) : ConsOk Try.prog (impl_Buf_end.cfg N).con := (consOk_cons (hb41) (impl_size_Sint64.ok N) (impl_size_Sint64.det N) consOk_nil)
theorem impl_Buf_end.h1 {R : Type} (N : Nat) (d : impl_Buf_end.sk1.D) (kn : impl_Buf_end.sk1.D → Option R) (kx : XD impl_Buf_end.xs1 → Option R) : roundK (impl_Buf_end.cfg N) N (nthLoop (fnBody Try.f45) 0) impl_Buf_end.sk1 impl_Buf_end.xs1 d kn kx = impl_Buf_end.l1 N d kn kx := by kernel_rfl
theorem impl_Buf_end.i1 (N : Nat) : LoopsOk Try.prog (impl_Buf_end.cfg N) (nthLoop (fnBody Try.f45) 0) := loopsL (l := []) (by kernel_rfl) trivial
theorem impl_Buf_end.o1 (N : Nat) : LoopOk Try.prog (nthLoop (fnBody Try.f45) 0) (loopCon N impl_Buf_end.sk1 impl_Buf_end.xs1 (fun {R} => impl_Buf_end.l1 (R := R) N)) := loop_ok (g := impl_Buf_end.cfg N) tys_ok (impl_Buf_end.cons N) mixed (impl_Buf_end.i1 N) (fun d kn kx => impl_Buf_end.h1 N d kn kx)
theorem impl_Buf_end.ls (N : Nat) : LoopsOk Try.prog (impl_Buf_end.cfg N) (fnBody Try.f45) := loopsL (l := [nthLoop (fnBody Try.f45) 0]) (by kernel_rfl) ⟨loopOne (L0 := loopCon N impl_Buf_end.sk1 impl_Buf_end.xs1 (fun {R} => impl_Buf_end.l1 (R := R) N)) (id := 1) (by kernel_rfl) (by kernel_rfl) (impl_Buf_end.o1 N), trivial⟩
theorem impl_Buf_end.q1 {R R' : Type} {N n : Nat} {d} {k} {g : R → Option R'} : bindF (loopP (impl_Buf_end.l1 N) n d k) g = loopP (impl_Buf_end.l1 N) n d fun e => bindF (k e) g := bindF_loopP (fun d kn kx => by simp only [impl_Buf_end.l1, bindF_ifB, bindF_bindO, bindF_pure, bindF_none, bindF_onSum]) n d k
theorem impl_Buf_end.b (N : Nat) (x0 : den (.pair (.sl 2 (.int .i64)) (.pair (.int .i64) (.pair (.int .i64) .unit)))) (x1 : den (.int .i64)) : body (impl_Buf_end.cfg N) N Try.f45 [.one, .one] [.rd, .v] [(false, .imm)] [⟨(.pair (.sl 2 (.int .i64)) (.pair (.int .i64) (.pair (.int .i64) .unit))), .imm, x0⟩, ⟨(.int .i64), .imm, x1⟩] (fun r i => some (r, i)) = bindO (impl_Buf_end N x0 x1) fun r => some ([⟨(.int .i64), .imm, r⟩], []) := by
  show _ = bindF _ _
  conv => rhs; simp only [impl_Buf_end, bindF_ifB, bindF_bindO, bindF_pure, bindF_none, bindF_onSum, impl_Buf_end.q1]
  kernel_rfl
theorem impl_Buf_end.ok (N : Nat) : ConOk Try.prog 45 [.one, .one] (impl_Buf_end.con N) := by
  refine conOk_mk (g := impl_Buf_end.cfg N) (N := N) (res := [(false, .imm)]) tys_ok (impl_Buf_end.cons N) mixed Try.func45 (impl_Buf_end.ls N) rfl rfl ?_
  intro ds R k y h
  cases ds with
  | nil => exact none_some h
  | cons d0 ds =>
  cases ds with
  | nil => exact none_some h
  | cons d1 ds =>
  cases ds with
  | cons _ _ => exact none_some h
  | nil =>
  have h0 : (castDm (.pair (.sl 2 (.int .i64)) (.pair (.int .i64) (.pair (.int .i64) .unit))) .imm d0 fun x0 => castDm (.int .i64) .imm d1 fun x1 => bindO (impl_Buf_end N x0 x1) fun r => k [⟨(.int .i64), .imm, r⟩] []) = some y := h
  clear h
  obtain ⟨x0, rfl, h1⟩ := castDm_eq h0
  obtain ⟨x1, rfl, h2⟩ := castDm_eq h1
  exact con_fin (impl_Buf_end.b N x0 x1) h2
theorem impl_Buf_end.det (N : Nat) : ConDet (impl_Buf_end.con N) := by
  intro ds R k y h
  cases ds with
  | nil => exact none_some h
  | cons d0 ds =>
  cases ds with
  | nil => exact none_some h
  | cons d1 ds =>
  cases ds with
  | cons _ _ => exact none_some h
  | nil =>
  have h0 : (castDm (.pair (.sl 2 (.int .i64)) (.pair (.int .i64) (.pair (.int .i64) .unit))) .imm d0 fun x0 => castDm (.int .i64) .imm d1 fun x1 => bindO (impl_Buf_end N x0 x1) fun r => k [⟨(.int .i64), .imm, r⟩] []) = some y := h
  clear h
  obtain ⟨x0, rfl, h1⟩ := castDm_eq h0
  obtain ⟨x1, rfl, h2⟩ := castDm_eq h1
  obtain ⟨r, e, h⟩ := bindO_some h2
  refine ⟨_, _, h, fun k' => ?_⟩
  show (castDm (.pair (.sl 2 (.int .i64)) (.pair (.int .i64) (.pair (.int .i64) .unit))) .imm (⟨(.pair (.sl 2 (.int .i64)) (.pair (.int .i64) (.pair (.int .i64) .unit))), .imm, x0⟩ : Dy) fun x0 => castDm (.int .i64) .imm (⟨(.int .i64), .imm, x1⟩ : Dy) fun x1 => bindO (impl_Buf_end N x0 x1) fun r => k' [⟨(.int .i64), .imm, r⟩] []) = _
  simp only [castDm_self]
  rw [e]
  rfl
def impl_Buf_lines.sk3 : Skel := ⟨[.dead, .dead, .dead, .ov 50 [], .dead, .dead, .dead, .dead, .dead, .dead, .pv (.sl 2 (.int .i64)), .pv (.int .i64), .pv (.int .i64), .dead, .dead, .dead, .dead, .dead, .dead, .dead, .dead, .dead, .dead, .dead, .dead, .dead], [⟨50, (.sl 2 (.int .i64)), (.own .imm), false, false⟩]⟩
def impl_Buf_lines.xs3 : List XS := [⟨.exit 0, [3], ⟨[.dead, .dead, .dead, .ov 50 [], .dead, .dead, .dead, .dead, .dead, .dead, .dead, .dead, .dead, .dead, .dead, .dead, .dead, .dead, .dead, .dead, .dead, .dead, .dead, .dead, .dead, .dead], [⟨50, (.sl 2 (.int .i64)), (.own .imm), false, false⟩]⟩⟩]
noncomputable def impl_Buf_lines.con (N : Nat) : Con := { modes := [.rd], ptrs := [false], fn := fun ds k => match ds with | [d0] => castDm (.pair (.sl 2 (.int .i64)) (.pair (.int .i64) (.pair (.int .i64) .unit))) .imm d0 fun x0 => bindO (impl_Buf_lines N x0) fun r => k [⟨(.sl 2 (.int .i64)), (.own .imm), r⟩] [] | _ => none }
noncomputable def impl_Buf_lines.cfg (N : Nat) : Cfg := { ty := tys, keep := [], flt := [], elm := [(22, (.own .imm)), (23, (.own .imm)), (24, (.pr (.own .imm) .imm)), (25, (.pr (.own .imm) .imm)), (54, (.pr (.own .imm) .imm)), (55, (.pr (.own .imm) .imm))], live := [(3, [3, 10, 11, 12])], ord := [], con := [], loops := [(3, loopCon N impl_Buf_lines.sk3 impl_Buf_lines.xs3 (fun {R} => impl_Buf_lines.l3 (R := R) N))], joins := [(7, [⟨.normal, [3, 10, 11, 12], ⟨[.dead, .dead, .dead, .ov 50 [], .dead, .dead, .dead, .dead, .dead, .dead, .pv (.sl 2 (.int .i64)), .pv (.int .i64), .pv (.int .i64), .dead, .dead, .dead, .dead, .dead, .dead, .dead, .dead, .dead, .dead, .dead, .dead, .dead], [⟨50, (.sl 2 (.int .i64)), (.own .imm), false, false⟩]⟩⟩])] }
theorem impl_Buf_lines.cons (N : Nat) : ConsOk Try.prog (impl_Buf_lines.cfg N).con := consOk_nil
theorem impl_Buf_lines.h3 {R : Type} (N : Nat) (d : impl_Buf_lines.sk3.D) (kn : impl_Buf_lines.sk3.D → Option R) (kx : XD impl_Buf_lines.xs3 → Option R) : roundK (impl_Buf_lines.cfg N) N (nthLoop (fnBody Try.f51) 0) impl_Buf_lines.sk3 impl_Buf_lines.xs3 d kn kx = impl_Buf_lines.l3 N d kn kx := by kernel_rfl
theorem impl_Buf_lines.i3 (N : Nat) : LoopsOk Try.prog (impl_Buf_lines.cfg N) (nthLoop (fnBody Try.f51) 0) := loopsL (l := []) (by kernel_rfl) trivial
theorem impl_Buf_lines.o3 (N : Nat) : LoopOk Try.prog (nthLoop (fnBody Try.f51) 0) (loopCon N impl_Buf_lines.sk3 impl_Buf_lines.xs3 (fun {R} => impl_Buf_lines.l3 (R := R) N)) := loop_ok (g := impl_Buf_lines.cfg N) tys_ok (impl_Buf_lines.cons N) mixed (impl_Buf_lines.i3 N) (fun d kn kx => impl_Buf_lines.h3 N d kn kx)
theorem impl_Buf_lines.ls (N : Nat) : LoopsOk Try.prog (impl_Buf_lines.cfg N) (fnBody Try.f51) := loopsL (l := [nthLoop (fnBody Try.f51) 0]) (by kernel_rfl) ⟨loopOne (L0 := loopCon N impl_Buf_lines.sk3 impl_Buf_lines.xs3 (fun {R} => impl_Buf_lines.l3 (R := R) N)) (id := 3) (by kernel_rfl) (by kernel_rfl) (impl_Buf_lines.o3 N), trivial⟩
theorem impl_Buf_lines.q3 {R R' : Type} {N n : Nat} {d} {k} {g : R → Option R'} : bindF (loopP (impl_Buf_lines.l3 N) n d k) g = loopP (impl_Buf_lines.l3 N) n d fun e => bindF (k e) g := bindF_loopP (fun d kn kx => by simp only [impl_Buf_lines.l3, bindF_ifB, bindF_bindO, bindF_pure, bindF_none, bindF_onSum]) n d k
theorem impl_Buf_lines.b (N : Nat) (x0 : den (.pair (.sl 2 (.int .i64)) (.pair (.int .i64) (.pair (.int .i64) .unit)))) : body (impl_Buf_lines.cfg N) N Try.f51 [.one] [.rd] [(false, (.own .imm))] [⟨(.pair (.sl 2 (.int .i64)) (.pair (.int .i64) (.pair (.int .i64) .unit))), .imm, x0⟩] (fun r i => some (r, i)) = bindO (impl_Buf_lines N x0) fun r => some ([⟨(.sl 2 (.int .i64)), (.own .imm), r⟩], []) := by
  show _ = bindF _ _
  conv => rhs; simp only [impl_Buf_lines, bindF_ifB, bindF_bindO, bindF_pure, bindF_none, bindF_onSum, impl_Buf_lines.q3]
  kernel_rfl
theorem impl_Buf_lines.ok (N : Nat) : ConOk Try.prog 51 [.one] (impl_Buf_lines.con N) := by
  refine conOk_mk (g := impl_Buf_lines.cfg N) (N := N) (res := [(false, (.own .imm))]) tys_ok (impl_Buf_lines.cons N) mixed Try.func51 (impl_Buf_lines.ls N) rfl rfl ?_
  intro ds R k y h
  cases ds with
  | nil => exact none_some h
  | cons d0 ds =>
  cases ds with
  | cons _ _ => exact none_some h
  | nil =>
  have h0 : (castDm (.pair (.sl 2 (.int .i64)) (.pair (.int .i64) (.pair (.int .i64) .unit))) .imm d0 fun x0 => bindO (impl_Buf_lines N x0) fun r => k [⟨(.sl 2 (.int .i64)), (.own .imm), r⟩] []) = some y := h
  clear h
  obtain ⟨x0, rfl, h1⟩ := castDm_eq h0
  exact con_fin (impl_Buf_lines.b N x0) h1
theorem impl_Buf_lines.det (N : Nat) : ConDet (impl_Buf_lines.con N) := by
  intro ds R k y h
  cases ds with
  | nil => exact none_some h
  | cons d0 ds =>
  cases ds with
  | cons _ _ => exact none_some h
  | nil =>
  have h0 : (castDm (.pair (.sl 2 (.int .i64)) (.pair (.int .i64) (.pair (.int .i64) .unit))) .imm d0 fun x0 => bindO (impl_Buf_lines N x0) fun r => k [⟨(.sl 2 (.int .i64)), (.own .imm), r⟩] []) = some y := h
  clear h
  obtain ⟨x0, rfl, h1⟩ := castDm_eq h0
  obtain ⟨r, e, h⟩ := bindO_some h1
  refine ⟨_, _, h, fun k' => ?_⟩
  show (castDm (.pair (.sl 2 (.int .i64)) (.pair (.int .i64) (.pair (.int .i64) .unit))) .imm (⟨(.pair (.sl 2 (.int .i64)) (.pair (.int .i64) (.pair (.int .i64) .unit))), .imm, x0⟩ : Dy) fun x0 => bindO (impl_Buf_lines N x0) fun r => k' [⟨(.sl 2 (.int .i64)), (.own .imm), r⟩] []) = _
  simp only [castDm_self]
  rw [e]
  rfl
def slices_Index_Sint64_int64.sk2 : Skel := ⟨[.pv (.sl 2 (.int .i64)), .pv (.int .i64), .dead, .dead, .dead, .dead, .dead, .pv (.int .i64), .pv (.int .i64), .dead, .dead, .dead, .dead, .dead, .dead, .dead, .dead, .dead, .dead], []⟩
def slices_Index_Sint64_int64.xs2 : List XS := [⟨.exit 0, [], ⟨[.dead, .dead, .dead, .dead, .dead, .dead, .dead, .dead, .dead, .dead, .dead, .dead, .dead, .dead, .dead, .dead, .dead, .dead, .dead], []⟩⟩, ⟨.ret, [4], ⟨[.dead, .dead, .dead, .dead, .pv (.int .i64), .dead, .dead, .dead, .dead, .dead, .dead, .dead, .dead, .dead, .dead, .dead, .dead, .dead, .dead], []⟩⟩]
noncomputable def slices_Index_Sint64_int64.con (N : Nat) : Con := { modes := [.v, .v], ptrs := [false], fn := fun ds k => match ds with | [d0, d1] => castDm (.sl 2 (.int .i64)) .imm d0 fun x0 => castDm (.int .i64) .imm d1 fun x1 => bindO (slices_Index_Sint64_int64 N x0 x1) fun r => k [⟨(.int .i64), .imm, r⟩] [] | _ => none }
noncomputable def slices_Index_Sint64_int64.cfg (N : Nat) : Cfg := { ty := tys, keep := [], flt := [], elm := [(22, (.own .imm)), (23, (.own .imm)), (24, (.pr (.own .imm) .imm)), (25, (.pr (.own .imm) .imm)), (54, (.pr (.own .imm) .imm)), (55, (.pr (.own .imm) .imm))], live := [(2, [0, 1, 7, 8])], ord := [], con := [], loops := [(2, loopCon N slices_Index_Sint64_int64.sk2 slices_Index_Sint64_int64.xs2 (fun {R} => slices_Index_Sint64_int64.l2 (R := R) N))], joins := [] }
theorem slices_Index_Sint64_int64.cons (N : Nat) : ConsOk Try.prog (slices_Index_Sint64_int64.cfg N).con := consOk_nil
theorem slices_Index_Sint64_int64.h2 {R : Type} (N : Nat) (d : slices_Index_Sint64_int64.sk2.D) (kn : slices_Index_Sint64_int64.sk2.D → Option R) (kx : XD slices_Index_Sint64_int64.xs2 → Option R) : roundK (slices_Index_Sint64_int64.cfg N) N (nthLoop (fnBody Try.f50) 0) slices_Index_Sint64_int64.sk2 slices_Index_Sint64_int64.xs2 d kn kx = slices_Index_Sint64_int64.l2 N d kn kx := by kernel_rfl
theorem slices_Index_Sint64_int64.i2 (N : Nat) : LoopsOk Try.prog (slices_Index_Sint64_int64.cfg N) (nthLoop (fnBody Try.f50) 0) := loopsL (l := []) (by kernel_rfl) trivial
theorem slices_Index_Sint64_int64.o2 (N : Nat) : LoopOk Try.prog (nthLoop (fnBody Try.f50) 0) (loopCon N slices_Index_Sint64_int64.sk2 slices_Index_Sint64_int64.xs2 (fun {R} => slices_Index_Sint64_int64.l2 (R := R) N)) := loop_ok (g := slices_Index_Sint64_int64.cfg N) tys_ok (slices_Index_Sint64_int64.cons N) mixed (slices_Index_Sint64_int64.i2 N) (fun d kn kx => slices_Index_Sint64_int64.h2 N d kn kx)
theorem slices_Index_Sint64_int64.ls (N : Nat) : LoopsOk Try.prog (slices_Index_Sint64_int64.cfg N) (fnBody Try.f50) := loopsL (l := [nthLoop (fnBody Try.f50) 0]) (by kernel_rfl) ⟨loopOne (L0 := loopCon N slices_Index_Sint64_int64.sk2 slices_Index_Sint64_int64.xs2 (fun {R} => slices_Index_Sint64_int64.l2 (R := R) N)) (id := 2) (by kernel_rfl) (by kernel_rfl) (slices_Index_Sint64_int64.o2 N), trivial⟩
theorem slices_Index_Sint64_int64.q2 {R R' : Type} {N n : Nat} {d} {k} {g : R → Option R'} : bindF (loopP (slices_Index_Sint64_int64.l2 N) n d k) g = loopP (slices_Index_Sint64_int64.l2 N) n d fun e => bindF (k e) g := bindF_loopP (fun d kn kx => by simp only [slices_Index_Sint64_int64.l2, bindF_ifB, bindF_bindO, bindF_pure, bindF_none, bindF_onSum]) n d k
theorem slices_Index_Sint64_int64.b (N : Nat) (x0 : den (.sl 2 (.int .i64))) (x1 : den (.int .i64)) : body (slices_Index_Sint64_int64.cfg N) N Try.f50 [.one, .one] [.v, .v] [(false, .imm)] [⟨(.sl 2 (.int .i64)), .imm, x0⟩, ⟨(.int .i64), .imm, x1⟩] (fun r i => some (r, i)) = bindO (slices_Index_Sint64_int64 N x0 x1) fun r => some ([⟨(.int .i64), .imm, r⟩], []) := by
  show _ = bindF _ _
  conv => rhs; simp only [slices_Index_Sint64_int64, bindF_ifB, bindF_bindO, bindF_pure, bindF_none, bindF_onSum, slices_Index_Sint64_int64.q2]
  kernel_rfl
theorem slices_Index_Sint64_int64.ok (N : Nat) : ConOk Try.prog 50 [.one, .one] (slices_Index_Sint64_int64.con N) := by
  refine conOk_mk (g := slices_Index_Sint64_int64.cfg N) (N := N) (res := [(false, .imm)]) tys_ok (slices_Index_Sint64_int64.cons N) mixed Try.func50 (slices_Index_Sint64_int64.ls N) rfl rfl ?_
  intro ds R k y h
  cases ds with
  | nil => exact none_some h
  | cons d0 ds =>
  cases ds with
  | nil => exact none_some h
  | cons d1 ds =>
  cases ds with
  | cons _ _ => exact none_some h
  | nil =>
  have h0 : (castDm (.sl 2 (.int .i64)) .imm d0 fun x0 => castDm (.int .i64) .imm d1 fun x1 => bindO (slices_Index_Sint64_int64 N x0 x1) fun r => k [⟨(.int .i64), .imm, r⟩] []) = some y := h
  clear h
  obtain ⟨x0, rfl, h1⟩ := castDm_eq h0
  obtain ⟨x1, rfl, h2⟩ := castDm_eq h1
  exact con_fin (slices_Index_Sint64_int64.b N x0 x1) h2
theorem slices_Index_Sint64_int64.det (N : Nat) : ConDet (slices_Index_Sint64_int64.con N) := by
  intro ds R k y h
  cases ds with
  | nil => exact none_some h
  | cons d0 ds =>
  cases ds with
  | nil => exact none_some h
  | cons d1 ds =>
  cases ds with
  | cons _ _ => exact none_some h
  | nil =>
  have h0 : (castDm (.sl 2 (.int .i64)) .imm d0 fun x0 => castDm (.int .i64) .imm d1 fun x1 => bindO (slices_Index_Sint64_int64 N x0 x1) fun r => k [⟨(.int .i64), .imm, r⟩] []) = some y := h
  clear h
  obtain ⟨x0, rfl, h1⟩ := castDm_eq h0
  obtain ⟨x1, rfl, h2⟩ := castDm_eq h1
  obtain ⟨r, e, h⟩ := bindO_some h2
  refine ⟨_, _, h, fun k' => ?_⟩
  show (castDm (.sl 2 (.int .i64)) .imm (⟨(.sl 2 (.int .i64)), .imm, x0⟩ : Dy) fun x0 => castDm (.int .i64) .imm (⟨(.int .i64), .imm, x1⟩ : Dy) fun x1 => bindO (slices_Index_Sint64_int64 N x0 x1) fun r => k' [⟨(.int .i64), .imm, r⟩] []) = _
  simp only [castDm_self]
  rw [e]
  rfl
noncomputable def impl_Buf_spot.con (N : Nat) : Con := { modes := [.rd, .v], ptrs := [false], fn := fun ds k => match ds with | [d0, d1] => castDm (.pair (.sl 2 (.int .i64)) (.pair (.int .i64) (.pair (.int .i64) .unit))) .imm d0 fun x0 => castDm (.int .i64) .imm d1 fun x1 => bindO (impl_Buf_spot N x0 x1) fun r => k [⟨(.pair (.int .i64) (.pair (.int .i64) .unit)), .imm, r⟩] [] | _ => none }
noncomputable def impl_Buf_spot.cfg (N : Nat) : Cfg := { ty := tys, keep := [8, 10, 12], flt := [], elm := [(22, (.own .imm)), (23, (.own .imm)), (24, (.pr (.own .imm) .imm)), (25, (.pr (.own .imm) .imm)), (54, (.pr (.own .imm) .imm)), (55, (.pr (.own .imm) .imm))], live := [], ord := [], con := [((44, [.one, .one]), impl_Buf_start.con N), ((51, [.one]), impl_Buf_lines.con N), ((50, [.one, .one]), slices_Index_Sint64_int64.con N)], loops := [], joins := [] }
theorem impl_Buf_spot.cons (N : Nat) : ConsOk Try.prog (impl_Buf_spot.cfg N).con := (consOk_cons (hb44) (impl_Buf_start.ok N) (impl_Buf_start.det N) (consOk_cons (hb51) (impl_Buf_lines.ok N) (impl_Buf_lines.det N) (consOk_cons (hb50) (slices_Index_Sint64_int64.ok N) (slices_Index_Sint64_int64.det N) consOk_nil)))
theorem impl_Buf_spot.ls (N : Nat) : LoopsOk Try.prog (impl_Buf_spot.cfg N) (fnBody Try.f46) := loopsL (l := []) (by kernel_rfl) trivial
theorem impl_Buf_spot.b (N : Nat) (x0 : den (.pair (.sl 2 (.int .i64)) (.pair (.int .i64) (.pair (.int .i64) .unit)))) (x1 : den (.int .i64)) : body (impl_Buf_spot.cfg N) N Try.f46 [.one, .one] [.rd, .v] [(false, .imm)] [⟨(.pair (.sl 2 (.int .i64)) (.pair (.int .i64) (.pair (.int .i64) .unit))), .imm, x0⟩, ⟨(.int .i64), .imm, x1⟩] (fun r i => some (r, i)) = bindO (impl_Buf_spot N x0 x1) fun r => some ([⟨(.pair (.int .i64) (.pair (.int .i64) .unit)), .imm, r⟩], []) := by
  show _ = bindF _ _
  conv => rhs; simp only [impl_Buf_spot, bindF_ifB, bindF_bindO, bindF_pure, bindF_none, bindF_onSum]
  kernel_rfl
theorem impl_Buf_spot.ok (N : Nat) : ConOk Try.prog 46 [.one, .one] (impl_Buf_spot.con N) := by
  refine conOk_mk (g := impl_Buf_spot.cfg N) (N := N) (res := [(false, .imm)]) tys_ok (impl_Buf_spot.cons N) mixed Try.func46 (impl_Buf_spot.ls N) rfl rfl ?_
  intro ds R k y h
  cases ds with
  | nil => exact none_some h
  | cons d0 ds =>
  cases ds with
  | nil => exact none_some h
  | cons d1 ds =>
  cases ds with
  | cons _ _ => exact none_some h
  | nil =>
  have h0 : (castDm (.pair (.sl 2 (.int .i64)) (.pair (.int .i64) (.pair (.int .i64) .unit))) .imm d0 fun x0 => castDm (.int .i64) .imm d1 fun x1 => bindO (impl_Buf_spot N x0 x1) fun r => k [⟨(.pair (.int .i64) (.pair (.int .i64) .unit)), .imm, r⟩] []) = some y := h
  clear h
  obtain ⟨x0, rfl, h1⟩ := castDm_eq h0
  obtain ⟨x1, rfl, h2⟩ := castDm_eq h1
  exact con_fin (impl_Buf_spot.b N x0 x1) h2
theorem impl_Buf_spot.det (N : Nat) : ConDet (impl_Buf_spot.con N) := by
  intro ds R k y h
  cases ds with
  | nil => exact none_some h
  | cons d0 ds =>
  cases ds with
  | nil => exact none_some h
  | cons d1 ds =>
  cases ds with
  | cons _ _ => exact none_some h
  | nil =>
  have h0 : (castDm (.pair (.sl 2 (.int .i64)) (.pair (.int .i64) (.pair (.int .i64) .unit))) .imm d0 fun x0 => castDm (.int .i64) .imm d1 fun x1 => bindO (impl_Buf_spot N x0 x1) fun r => k [⟨(.pair (.int .i64) (.pair (.int .i64) .unit)), .imm, r⟩] []) = some y := h
  clear h
  obtain ⟨x0, rfl, h1⟩ := castDm_eq h0
  obtain ⟨x1, rfl, h2⟩ := castDm_eq h1
  obtain ⟨r, e, h⟩ := bindO_some h2
  refine ⟨_, _, h, fun k' => ?_⟩
  show (castDm (.pair (.sl 2 (.int .i64)) (.pair (.int .i64) (.pair (.int .i64) .unit))) .imm (⟨(.pair (.sl 2 (.int .i64)) (.pair (.int .i64) (.pair (.int .i64) .unit))), .imm, x0⟩ : Dy) fun x0 => castDm (.int .i64) .imm (⟨(.int .i64), .imm, x1⟩ : Dy) fun x1 => bindO (impl_Buf_spot N x0 x1) fun r => k' [⟨(.pair (.int .i64) (.pair (.int .i64) .unit)), .imm, r⟩] []) = _
  simp only [castDm_self]
  rw [e]
  rfl
noncomputable def impl_Buf_place.con (N : Nat) : Con := { modes := [.rd, .v], ptrs := [false], fn := fun ds k => match ds with | [d0, d1] => castDm (.pair (.sl 2 (.int .i64)) (.pair (.int .i64) (.pair (.int .i64) .unit))) .imm d0 fun x0 => castDm (.pair (.int .i64) (.pair (.int .i64) .unit)) .imm d1 fun x1 => bindO (impl_Buf_place N x0 x1) fun r => k [⟨(.int .i64), .imm, r⟩] [] | _ => none }
noncomputable def impl_Buf_place.cfg (N : Nat) : Cfg := { ty := tys, keep := [8, 14, 25], flt := [], elm := [(22, (.own .imm)), (23, (.own .imm)), (24, (.pr (.own .imm) .imm)), (25, (.pr (.own .imm) .imm)), (54, (.pr (.own .imm) .imm)), (55, (.pr (.own .imm) .imm))], live := [], ord := [(2, [0, 1, 2, 4, 3, 5, 6, 7, 8, 9, 10]), (3, [0, 1, 2, 4, 5, 7, 3, 6, 8, 9, 10, 11])], con := [((51, [.one]), impl_Buf_lines.con N), ((41, [.one]), impl_size_Sint64.con N), ((45, [.one, .one]), impl_Buf_end.con N)], loops := [], joins := [] }
theorem impl_Buf_place.cons (N : Nat) : ConsOk Try.prog (impl_Buf_place.cfg N).con := (consOk_cons (hb51) (impl_Buf_lines.ok N) (impl_Buf_lines.det N) (consOk_cons (hb41) (impl_size_Sint64.ok N) (impl_size_Sint64.det N) (consOk_cons (hb45) (impl_Buf_end.ok N) (impl_Buf_end.det N) consOk_nil)))
theorem impl_Buf_place.ls (N : Nat) : LoopsOk Try.prog (impl_Buf_place.cfg N) (fnBody Try.f47) := loopsL (l := []) (by kernel_rfl) trivial
theorem impl_Buf_place.b (N : Nat) (x0 : den (.pair (.sl 2 (.int .i64)) (.pair (.int .i64) (.pair (.int .i64) .unit)))) (x1 : den (.pair (.int .i64) (.pair (.int .i64) .unit))) : body (impl_Buf_place.cfg N) N Try.f47 [.one, .one] [.rd, .v] [(false, .imm)] [⟨(.pair (.sl 2 (.int .i64)) (.pair (.int .i64) (.pair (.int .i64) .unit))), .imm, x0⟩, ⟨(.pair (.int .i64) (.pair (.int .i64) .unit)), .imm, x1⟩] (fun r i => some (r, i)) = bindO (impl_Buf_place N x0 x1) fun r => some ([⟨(.int .i64), .imm, r⟩], []) := by
  show _ = bindF _ _
  conv => rhs; simp only [impl_Buf_place, bindF_ifB, bindF_bindO, bindF_pure, bindF_none, bindF_onSum]
  kernel_rfl
theorem impl_Buf_place.ok (N : Nat) : ConOk Try.prog 47 [.one, .one] (impl_Buf_place.con N) := by
  refine conOk_mk (g := impl_Buf_place.cfg N) (N := N) (res := [(false, .imm)]) tys_ok (impl_Buf_place.cons N) mixed Try.func47 (impl_Buf_place.ls N) rfl rfl ?_
  intro ds R k y h
  cases ds with
  | nil => exact none_some h
  | cons d0 ds =>
  cases ds with
  | nil => exact none_some h
  | cons d1 ds =>
  cases ds with
  | cons _ _ => exact none_some h
  | nil =>
  have h0 : (castDm (.pair (.sl 2 (.int .i64)) (.pair (.int .i64) (.pair (.int .i64) .unit))) .imm d0 fun x0 => castDm (.pair (.int .i64) (.pair (.int .i64) .unit)) .imm d1 fun x1 => bindO (impl_Buf_place N x0 x1) fun r => k [⟨(.int .i64), .imm, r⟩] []) = some y := h
  clear h
  obtain ⟨x0, rfl, h1⟩ := castDm_eq h0
  obtain ⟨x1, rfl, h2⟩ := castDm_eq h1
  exact con_fin (impl_Buf_place.b N x0 x1) h2
theorem impl_Buf_place.det (N : Nat) : ConDet (impl_Buf_place.con N) := by
  intro ds R k y h
  cases ds with
  | nil => exact none_some h
  | cons d0 ds =>
  cases ds with
  | nil => exact none_some h
  | cons d1 ds =>
  cases ds with
  | cons _ _ => exact none_some h
  | nil =>
  have h0 : (castDm (.pair (.sl 2 (.int .i64)) (.pair (.int .i64) (.pair (.int .i64) .unit))) .imm d0 fun x0 => castDm (.pair (.int .i64) (.pair (.int .i64) .unit)) .imm d1 fun x1 => bindO (impl_Buf_place N x0 x1) fun r => k [⟨(.int .i64), .imm, r⟩] []) = some y := h
  clear h
  obtain ⟨x0, rfl, h1⟩ := castDm_eq h0
  obtain ⟨x1, rfl, h2⟩ := castDm_eq h1
  obtain ⟨r, e, h⟩ := bindO_some h2
  refine ⟨_, _, h, fun k' => ?_⟩
  show (castDm (.pair (.sl 2 (.int .i64)) (.pair (.int .i64) (.pair (.int .i64) .unit))) .imm (⟨(.pair (.sl 2 (.int .i64)) (.pair (.int .i64) (.pair (.int .i64) .unit))), .imm, x0⟩ : Dy) fun x0 => castDm (.pair (.int .i64) (.pair (.int .i64) .unit)) .imm (⟨(.pair (.int .i64) (.pair (.int .i64) .unit)), .imm, x1⟩ : Dy) fun x1 => bindO (impl_Buf_place N x0 x1) fun r => k' [⟨(.int .i64), .imm, r⟩] []) = _
  simp only [castDm_self]
  rw [e]
  rfl
def impl_Buf_step.sk26 : Skel := ⟨[.rp (.pair (.sl 2 (.int .i64)) (.pair (.int .i64) (.pair (.int .i64) .unit))), .pv (.int .i64), .dead, .pv (.int .i64), .dead, .dead, .dead, .dead, .dead, .pv (.int .i64), .dead, .pv (.int .i64), .dead, .dead, .dead, .dead, .dead, .dead, .dead, .dead, .dead, .dead, .dead, .dead, .dead, .dead, .dead, .dead, .dead, .dead, .dead, .dead, .dead, .dead, .dead, .dead, .dead, .dead, .dead, .dead, .dead, .dead, .dead, .dead, .dead, .dead, .dead, .dead, .dead, .dead, .dead, .dead, .dead, .dead, .dead, .dead, .dead, .dead, .dead, .dead, .dead, .dead, .dead, .dead, .dead, .dead, .dead, .dead, .dead, .dead, .dead, .dead, .dead, .dead, .dead, .dead, .dead, .dead, .dead, .dead, .dead, .dead, .dead, .dead, .dead, .dead, .dead, .dead, .dead, .dead, .dead, .dead, .dead, .dead, .dead, .dead, .dead], []⟩
def impl_Buf_step.xs26 : List XS := [⟨.exit 1, [1], ⟨[.dead, .pv (.int .i64), .dead, .dead, .dead, .dead, .dead, .dead, .dead, .dead, .dead, .dead, .dead, .dead, .dead, .dead, .dead, .dead, .dead, .dead, .dead, .dead, .dead, .dead, .dead, .dead, .dead, .dead, .dead, .dead, .dead, .dead, .dead, .dead, .dead, .dead, .dead, .dead, .dead, .dead, .dead, .dead, .dead, .dead, .dead, .dead, .dead, .dead, .dead, .dead, .dead, .dead, .dead, .dead, .dead, .dead, .dead, .dead, .dead, .dead, .dead, .dead, .dead, .dead, .dead, .dead, .dead, .dead, .dead, .dead, .dead, .dead, .dead, .dead, .dead, .dead, .dead, .dead, .dead, .dead, .dead, .dead, .dead, .dead, .dead, .dead, .dead, .dead, .dead, .dead, .dead, .dead, .dead, .dead, .dead, .dead, .dead], []⟩⟩, ⟨.ret, [8], ⟨[.dead, .dead, .dead, .dead, .dead, .dead, .dead, .dead, .pv (.int .i64), .dead, .dead, .dead, .dead, .dead, .dead, .dead, .dead, .dead, .dead, .dead, .dead, .dead, .dead, .dead, .dead, .dead, .dead, .dead, .dead, .dead, .dead, .dead, .dead, .dead, .dead, .dead, .dead, .dead, .dead, .dead, .dead, .dead, .dead, .dead, .dead, .dead, .dead, .dead, .dead, .dead, .dead, .dead, .dead, .dead, .dead, .dead, .dead, .dead, .dead, .dead, .dead, .dead, .dead, .dead, .dead, .dead, .dead, .dead, .dead, .dead, .dead, .dead, .dead, .dead, .dead, .dead, .dead, .dead, .dead, .dead, .dead, .dead, .dead, .dead, .dead, .dead, .dead, .dead, .dead, .dead, .dead, .dead, .dead, .dead, .dead, .dead, .dead], []⟩⟩]
noncomputable def impl_Buf_step.con (N : Nat) : Con := { modes := [.rd, .v, .v, .v], ptrs := [false], fn := fun ds k => match ds with | [d0, d1, d2, d3] => castDm (.pair (.sl 2 (.int .i64)) (.pair (.int .i64) (.pair (.int .i64) .unit))) .imm d0 fun x0 => castDm (.int .i64) .imm d1 fun x1 => castDm (.int .i64) .imm d2 fun x2 => castDm (.int .i64) .imm d3 fun x3 => bindO (impl_Buf_step N x0 x1 x2 x3) fun r => k [⟨(.int .i64), .imm, r⟩] [] | _ => none }
noncomputable def impl_Buf_step.cfg (N : Nat) : Cfg := { ty := tys, keep := [16, 33, 38, 43, 48, 54, 62, 73], flt := [], elm := [(22, (.own .imm)), (23, (.own .imm)), (24, (.pr (.own .imm) .imm)), (25, (.pr (.own .imm) .imm)), (54, (.pr (.own .imm) .imm)), (55, (.pr (.own .imm) .imm))], live := [(26, [0, 1, 3, 9, 11])], ord := [(17, [13, 0, 1, 5, 6, 7, 8, 9, 2, 3, 4, 10, 11, 12, 14])], con := [((41, [.one]), impl_size_Sint64.con N), ((42, [.one, .one]), impl_Buf_wordBack.con N), ((43, [.one, .one]), impl_Buf_wordNext.con N), ((44, [.one, .one]), impl_Buf_start.con N), ((45, [.one, .one]), impl_Buf_end.con N), ((46, [.one, .one]), impl_Buf_spot.con N), ((47, [.one, .one]), impl_Buf_place.con N)], loops := [(26, loopCon N impl_Buf_step.sk26 impl_Buf_step.xs26 (fun {R} => impl_Buf_step.l26 (R := R) N))], joins := [] }
theorem impl_Buf_step.cons (N : Nat) : ConsOk Try.prog (impl_Buf_step.cfg N).con := (consOk_cons (hb41) (impl_size_Sint64.ok N) (impl_size_Sint64.det N) (consOk_cons (hb42) (impl_Buf_wordBack.ok N) (impl_Buf_wordBack.det N) (consOk_cons (hb43) (impl_Buf_wordNext.ok N) (impl_Buf_wordNext.det N) (consOk_cons (hb44) (impl_Buf_start.ok N) (impl_Buf_start.det N) (consOk_cons (hb45) (impl_Buf_end.ok N) (impl_Buf_end.det N) (consOk_cons (hb46) (impl_Buf_spot.ok N) (impl_Buf_spot.det N) (consOk_cons (hb47) (impl_Buf_place.ok N) (impl_Buf_place.det N) consOk_nil)))))))
theorem impl_Buf_step.h26 {R : Type} (N : Nat) (d : impl_Buf_step.sk26.D) (kn : impl_Buf_step.sk26.D → Option R) (kx : XD impl_Buf_step.xs26 → Option R) : roundK (impl_Buf_step.cfg N) N (nthLoop (fnBody Try.f34) 0) impl_Buf_step.sk26 impl_Buf_step.xs26 d kn kx = impl_Buf_step.l26 N d kn kx := by kernel_rfl
theorem impl_Buf_step.i26 (N : Nat) : LoopsOk Try.prog (impl_Buf_step.cfg N) (nthLoop (fnBody Try.f34) 0) := loopsL (l := []) (by kernel_rfl) trivial
theorem impl_Buf_step.o26 (N : Nat) : LoopOk Try.prog (nthLoop (fnBody Try.f34) 0) (loopCon N impl_Buf_step.sk26 impl_Buf_step.xs26 (fun {R} => impl_Buf_step.l26 (R := R) N)) := loop_ok (g := impl_Buf_step.cfg N) tys_ok (impl_Buf_step.cons N) mixed (impl_Buf_step.i26 N) (fun d kn kx => impl_Buf_step.h26 N d kn kx)
theorem impl_Buf_step.ls (N : Nat) : LoopsOk Try.prog (impl_Buf_step.cfg N) (fnBody Try.f34) := loopsL (l := [nthLoop (fnBody Try.f34) 0]) (by kernel_rfl) ⟨loopOne (L0 := loopCon N impl_Buf_step.sk26 impl_Buf_step.xs26 (fun {R} => impl_Buf_step.l26 (R := R) N)) (id := 26) (by kernel_rfl) (by kernel_rfl) (impl_Buf_step.o26 N), trivial⟩
theorem impl_Buf_step.q26 {R R' : Type} {N n : Nat} {d} {k} {g : R → Option R'} : bindF (loopP (impl_Buf_step.l26 N) n d k) g = loopP (impl_Buf_step.l26 N) n d fun e => bindF (k e) g := bindF_loopP (fun d kn kx => by simp only [impl_Buf_step.l26, bindF_ifB, bindF_bindO, bindF_pure, bindF_none, bindF_onSum]) n d k
theorem impl_Buf_step.b (N : Nat) (x0 : den (.pair (.sl 2 (.int .i64)) (.pair (.int .i64) (.pair (.int .i64) .unit)))) (x1 : den (.int .i64)) (x2 : den (.int .i64)) (x3 : den (.int .i64)) : body (impl_Buf_step.cfg N) N Try.f34 [.one, .one, .one, .one] [.rd, .v, .v, .v] [(false, .imm)] [⟨(.pair (.sl 2 (.int .i64)) (.pair (.int .i64) (.pair (.int .i64) .unit))), .imm, x0⟩, ⟨(.int .i64), .imm, x1⟩, ⟨(.int .i64), .imm, x2⟩, ⟨(.int .i64), .imm, x3⟩] (fun r i => some (r, i)) = bindO (impl_Buf_step N x0 x1 x2 x3) fun r => some ([⟨(.int .i64), .imm, r⟩], []) := by
  show _ = bindF _ _
  conv => rhs; simp only [impl_Buf_step, bindF_ifB, bindF_bindO, bindF_pure, bindF_none, bindF_onSum, impl_Buf_step.q26]
  kernel_rfl
theorem impl_Buf_step.ok (N : Nat) : ConOk Try.prog 34 [.one, .one, .one, .one] (impl_Buf_step.con N) := by
  refine conOk_mk (g := impl_Buf_step.cfg N) (N := N) (res := [(false, .imm)]) tys_ok (impl_Buf_step.cons N) mixed Try.func34 (impl_Buf_step.ls N) rfl rfl ?_
  intro ds R k y h
  cases ds with
  | nil => exact none_some h
  | cons d0 ds =>
  cases ds with
  | nil => exact none_some h
  | cons d1 ds =>
  cases ds with
  | nil => exact none_some h
  | cons d2 ds =>
  cases ds with
  | nil => exact none_some h
  | cons d3 ds =>
  cases ds with
  | cons _ _ => exact none_some h
  | nil =>
  have h0 : (castDm (.pair (.sl 2 (.int .i64)) (.pair (.int .i64) (.pair (.int .i64) .unit))) .imm d0 fun x0 => castDm (.int .i64) .imm d1 fun x1 => castDm (.int .i64) .imm d2 fun x2 => castDm (.int .i64) .imm d3 fun x3 => bindO (impl_Buf_step N x0 x1 x2 x3) fun r => k [⟨(.int .i64), .imm, r⟩] []) = some y := h
  clear h
  obtain ⟨x0, rfl, h1⟩ := castDm_eq h0
  obtain ⟨x1, rfl, h2⟩ := castDm_eq h1
  obtain ⟨x2, rfl, h3⟩ := castDm_eq h2
  obtain ⟨x3, rfl, h4⟩ := castDm_eq h3
  exact con_fin (impl_Buf_step.b N x0 x1 x2 x3) h4
theorem impl_Buf_step.det (N : Nat) : ConDet (impl_Buf_step.con N) := by
  intro ds R k y h
  cases ds with
  | nil => exact none_some h
  | cons d0 ds =>
  cases ds with
  | nil => exact none_some h
  | cons d1 ds =>
  cases ds with
  | nil => exact none_some h
  | cons d2 ds =>
  cases ds with
  | nil => exact none_some h
  | cons d3 ds =>
  cases ds with
  | cons _ _ => exact none_some h
  | nil =>
  have h0 : (castDm (.pair (.sl 2 (.int .i64)) (.pair (.int .i64) (.pair (.int .i64) .unit))) .imm d0 fun x0 => castDm (.int .i64) .imm d1 fun x1 => castDm (.int .i64) .imm d2 fun x2 => castDm (.int .i64) .imm d3 fun x3 => bindO (impl_Buf_step N x0 x1 x2 x3) fun r => k [⟨(.int .i64), .imm, r⟩] []) = some y := h
  clear h
  obtain ⟨x0, rfl, h1⟩ := castDm_eq h0
  obtain ⟨x1, rfl, h2⟩ := castDm_eq h1
  obtain ⟨x2, rfl, h3⟩ := castDm_eq h2
  obtain ⟨x3, rfl, h4⟩ := castDm_eq h3
  obtain ⟨r, e, h⟩ := bindO_some h4
  refine ⟨_, _, h, fun k' => ?_⟩
  show (castDm (.pair (.sl 2 (.int .i64)) (.pair (.int .i64) (.pair (.int .i64) .unit))) .imm (⟨(.pair (.sl 2 (.int .i64)) (.pair (.int .i64) (.pair (.int .i64) .unit))), .imm, x0⟩ : Dy) fun x0 => castDm (.int .i64) .imm (⟨(.int .i64), .imm, x1⟩ : Dy) fun x1 => castDm (.int .i64) .imm (⟨(.int .i64), .imm, x2⟩ : Dy) fun x2 => castDm (.int .i64) .imm (⟨(.int .i64), .imm, x3⟩ : Dy) fun x3 => bindO (impl_Buf_step N x0 x1 x2 x3) fun r => k' [⟨(.int .i64), .imm, r⟩] []) = _
  simp only [castDm_self]
  rw [e]
  rfl
def impl_Buf_motion.sk3 : Skel := ⟨[.rp (.pair (.sl 2 (.int .i64)) (.pair (.int .i64) (.pair (.int .i64) .unit))), .pv (.int .i64), .dead, .pv (.int .i64), .dead, .dead, .dead, .dead, .dead, .pv (.int .i64), .dead, .dead, .dead, .dead, .dead, .pv (.int .i64), .pv (.int .i64), .dead, .dead, .dead, .dead, .dead, .dead, .dead, .dead, .dead, .dead, .dead, .dead], []⟩
def impl_Buf_motion.xs3 : List XS := [⟨.exit 0, [9], ⟨[.dead, .dead, .dead, .dead, .dead, .dead, .dead, .dead, .dead, .pv (.int .i64), .dead, .dead, .dead, .dead, .dead, .dead, .dead, .dead, .dead, .dead, .dead, .dead, .dead, .dead, .dead, .dead, .dead, .dead, .dead], []⟩⟩]
noncomputable def impl_Buf_motion.con (N : Nat) : Con := { modes := [.rd, .v, .v, .v], ptrs := [false], fn := fun ds k => match ds with | [d0, d1, d2, d3] => castDm (.pair (.sl 2 (.int .i64)) (.pair (.int .i64) (.pair (.int .i64) .unit))) .imm d0 fun x0 => castDm (.int .i64) .imm d1 fun x1 => castDm (.int .i64) .imm d2 fun x2 => castDm (.int .i64) .imm d3 fun x3 => bindO (impl_Buf_motion N x0 x1 x2 x3) fun r => k [⟨(.int .i64), .imm, r⟩] [] | _ => none }
noncomputable def impl_Buf_motion.cfg (N : Nat) : Cfg := { ty := tys, keep := [22], flt := [], elm := [(22, (.own .imm)), (23, (.own .imm)), (24, (.pr (.own .imm) .imm)), (25, (.pr (.own .imm) .imm)), (54, (.pr (.own .imm) .imm)), (55, (.pr (.own .imm) .imm))], live := [(3, [0, 1, 3, 9, 15, 16])], ord := [], con := [((34, [.one, .one, .one, .one]), impl_Buf_step.con N)], loops := [(3, loopCon N impl_Buf_motion.sk3 impl_Buf_motion.xs3 (fun {R} => impl_Buf_motion.l3 (R := R) N))], joins := [] }
theorem impl_Buf_motion.cons (N : Nat) : ConsOk Try.prog (impl_Buf_motion.cfg N).con := (consOk_cons (hb34) (impl_Buf_step.ok N) (impl_Buf_step.det N) consOk_nil)
theorem impl_Buf_motion.h3 {R : Type} (N : Nat) (d : impl_Buf_motion.sk3.D) (kn : impl_Buf_motion.sk3.D → Option R) (kx : XD impl_Buf_motion.xs3 → Option R) : roundK (impl_Buf_motion.cfg N) N (nthLoop (fnBody Try.f17) 0) impl_Buf_motion.sk3 impl_Buf_motion.xs3 d kn kx = impl_Buf_motion.l3 N d kn kx := by kernel_rfl
theorem impl_Buf_motion.i3 (N : Nat) : LoopsOk Try.prog (impl_Buf_motion.cfg N) (nthLoop (fnBody Try.f17) 0) := loopsL (l := []) (by kernel_rfl) trivial
theorem impl_Buf_motion.o3 (N : Nat) : LoopOk Try.prog (nthLoop (fnBody Try.f17) 0) (loopCon N impl_Buf_motion.sk3 impl_Buf_motion.xs3 (fun {R} => impl_Buf_motion.l3 (R := R) N)) := loop_ok (g := impl_Buf_motion.cfg N) tys_ok (impl_Buf_motion.cons N) mixed (impl_Buf_motion.i3 N) (fun d kn kx => impl_Buf_motion.h3 N d kn kx)
theorem impl_Buf_motion.ls (N : Nat) : LoopsOk Try.prog (impl_Buf_motion.cfg N) (fnBody Try.f17) := loopsL (l := [nthLoop (fnBody Try.f17) 0]) (by kernel_rfl) ⟨loopOne (L0 := loopCon N impl_Buf_motion.sk3 impl_Buf_motion.xs3 (fun {R} => impl_Buf_motion.l3 (R := R) N)) (id := 3) (by kernel_rfl) (by kernel_rfl) (impl_Buf_motion.o3 N), trivial⟩
theorem impl_Buf_motion.q3 {R R' : Type} {N n : Nat} {d} {k} {g : R → Option R'} : bindF (loopP (impl_Buf_motion.l3 N) n d k) g = loopP (impl_Buf_motion.l3 N) n d fun e => bindF (k e) g := bindF_loopP (fun d kn kx => by simp only [impl_Buf_motion.l3, bindF_ifB, bindF_bindO, bindF_pure, bindF_none, bindF_onSum]) n d k
theorem impl_Buf_motion.b (N : Nat) (x0 : den (.pair (.sl 2 (.int .i64)) (.pair (.int .i64) (.pair (.int .i64) .unit)))) (x1 : den (.int .i64)) (x2 : den (.int .i64)) (x3 : den (.int .i64)) : body (impl_Buf_motion.cfg N) N Try.f17 [.one, .one, .one, .one] [.rd, .v, .v, .v] [(false, .imm)] [⟨(.pair (.sl 2 (.int .i64)) (.pair (.int .i64) (.pair (.int .i64) .unit))), .imm, x0⟩, ⟨(.int .i64), .imm, x1⟩, ⟨(.int .i64), .imm, x2⟩, ⟨(.int .i64), .imm, x3⟩] (fun r i => some (r, i)) = bindO (impl_Buf_motion N x0 x1 x2 x3) fun r => some ([⟨(.int .i64), .imm, r⟩], []) := by
  show _ = bindF _ _
  conv => rhs; simp only [impl_Buf_motion, bindF_ifB, bindF_bindO, bindF_pure, bindF_none, bindF_onSum, impl_Buf_motion.q3]
  kernel_rfl
theorem impl_Buf_motion.ok (N : Nat) : ConOk Try.prog 17 [.one, .one, .one, .one] (impl_Buf_motion.con N) := by
  refine conOk_mk (g := impl_Buf_motion.cfg N) (N := N) (res := [(false, .imm)]) tys_ok (impl_Buf_motion.cons N) mixed Try.func17 (impl_Buf_motion.ls N) rfl rfl ?_
  intro ds R k y h
  cases ds with
  | nil => exact none_some h
  | cons d0 ds =>
  cases ds with
  | nil => exact none_some h
  | cons d1 ds =>
  cases ds with
  | nil => exact none_some h
  | cons d2 ds =>
  cases ds with
  | nil => exact none_some h
  | cons d3 ds =>
  cases ds with
  | cons _ _ => exact none_some h
  | nil =>
  have h0 : (castDm (.pair (.sl 2 (.int .i64)) (.pair (.int .i64) (.pair (.int .i64) .unit))) .imm d0 fun x0 => castDm (.int .i64) .imm d1 fun x1 => castDm (.int .i64) .imm d2 fun x2 => castDm (.int .i64) .imm d3 fun x3 => bindO (impl_Buf_motion N x0 x1 x2 x3) fun r => k [⟨(.int .i64), .imm, r⟩] []) = some y := h
  clear h
  obtain ⟨x0, rfl, h1⟩ := castDm_eq h0
  obtain ⟨x1, rfl, h2⟩ := castDm_eq h1
  obtain ⟨x2, rfl, h3⟩ := castDm_eq h2
  obtain ⟨x3, rfl, h4⟩ := castDm_eq h3
  exact con_fin (impl_Buf_motion.b N x0 x1 x2 x3) h4
theorem impl_Buf_motion.det (N : Nat) : ConDet (impl_Buf_motion.con N) := by
  intro ds R k y h
  cases ds with
  | nil => exact none_some h
  | cons d0 ds =>
  cases ds with
  | nil => exact none_some h
  | cons d1 ds =>
  cases ds with
  | nil => exact none_some h
  | cons d2 ds =>
  cases ds with
  | nil => exact none_some h
  | cons d3 ds =>
  cases ds with
  | cons _ _ => exact none_some h
  | nil =>
  have h0 : (castDm (.pair (.sl 2 (.int .i64)) (.pair (.int .i64) (.pair (.int .i64) .unit))) .imm d0 fun x0 => castDm (.int .i64) .imm d1 fun x1 => castDm (.int .i64) .imm d2 fun x2 => castDm (.int .i64) .imm d3 fun x3 => bindO (impl_Buf_motion N x0 x1 x2 x3) fun r => k [⟨(.int .i64), .imm, r⟩] []) = some y := h
  clear h
  obtain ⟨x0, rfl, h1⟩ := castDm_eq h0
  obtain ⟨x1, rfl, h2⟩ := castDm_eq h1
  obtain ⟨x2, rfl, h3⟩ := castDm_eq h2
  obtain ⟨x3, rfl, h4⟩ := castDm_eq h3
  obtain ⟨r, e, h⟩ := bindO_some h4
  refine ⟨_, _, h, fun k' => ?_⟩
  show (castDm (.pair (.sl 2 (.int .i64)) (.pair (.int .i64) (.pair (.int .i64) .unit))) .imm (⟨(.pair (.sl 2 (.int .i64)) (.pair (.int .i64) (.pair (.int .i64) .unit))), .imm, x0⟩ : Dy) fun x0 => castDm (.int .i64) .imm (⟨(.int .i64), .imm, x1⟩ : Dy) fun x1 => castDm (.int .i64) .imm (⟨(.int .i64), .imm, x2⟩ : Dy) fun x2 => castDm (.int .i64) .imm (⟨(.int .i64), .imm, x3⟩ : Dy) fun x3 => bindO (impl_Buf_motion N x0 x1 x2 x3) fun r => k' [⟨(.int .i64), .imm, r⟩] []) = _
  simp only [castDm_self]
  rw [e]
  rfl
noncomputable def impl_Motion.con (N : Nat) : Con := { modes := [.v, .v, .v, .v], ptrs := [false], fn := fun ds k => match ds with | [d0, d1, d2, d3] => castDm (.pair (.sl 2 (.int .i64)) (.pair (.int .i64) (.pair (.int .i64) .unit))) .imm d0 fun x0 => castDm (.int .i64) .imm d1 fun x1 => castDm (.int .i64) .imm d2 fun x2 => castDm (.int .i64) .imm d3 fun x3 => bindO (impl_Motion N x0 x1 x2 x3) fun r => k [⟨(.int .i64), .imm, r⟩] [] | _ => none }
noncomputable def impl_Motion.cfg (N : Nat) : Cfg := { ty := tys, keep := [10, 14, 19, 25], flt := [], elm := [(22, (.own .imm)), (23, (.own .imm)), (24, (.pr (.own .imm) .imm)), (25, (.pr (.own .imm) .imm)), (54, (.pr (.own .imm) .imm)), (55, (.pr (.own .imm) .imm))], live := [], ord := [], con := [((15, [.one]), impl_BufRight.con N), ((16, [.one, .one, .one]), impl_within.con N), ((17, [.one, .one, .one, .one]), impl_Buf_motion.con N)], loops := [], joins := [] }
theorem impl_Motion.cons (N : Nat) : ConsOk Try.prog (impl_Motion.cfg N).con := (consOk_cons (hb15) (impl_BufRight.ok N) (impl_BufRight.det N) (consOk_cons (hb16) (impl_within.ok N) (impl_within.det N) (consOk_cons (hb17) (impl_Buf_motion.ok N) (impl_Buf_motion.det N) consOk_nil)))
theorem impl_Motion.ls (N : Nat) : LoopsOk Try.prog (impl_Motion.cfg N) (fnBody Try.f6) := loopsL (l := []) (by kernel_rfl) trivial
theorem impl_Motion.b (N : Nat) (x0 : den (.pair (.sl 2 (.int .i64)) (.pair (.int .i64) (.pair (.int .i64) .unit)))) (x1 : den (.int .i64)) (x2 : den (.int .i64)) (x3 : den (.int .i64)) : body (impl_Motion.cfg N) N Try.f6 [.one, .one, .one, .one] [.v, .v, .v, .v] [(false, .imm)] [⟨(.pair (.sl 2 (.int .i64)) (.pair (.int .i64) (.pair (.int .i64) .unit))), .imm, x0⟩, ⟨(.int .i64), .imm, x1⟩, ⟨(.int .i64), .imm, x2⟩, ⟨(.int .i64), .imm, x3⟩] (fun r i => some (r, i)) = bindO (impl_Motion N x0 x1 x2 x3) fun r => some ([⟨(.int .i64), .imm, r⟩], []) := by
  show _ = bindF _ _
  conv => rhs; simp only [impl_Motion, bindF_ifB, bindF_bindO, bindF_pure, bindF_none, bindF_onSum]
  kernel_rfl
theorem impl_Motion.ok (N : Nat) : ConOk Try.prog 6 [.one, .one, .one, .one] (impl_Motion.con N) := by
  refine conOk_mk (g := impl_Motion.cfg N) (N := N) (res := [(false, .imm)]) tys_ok (impl_Motion.cons N) mixed Try.func6 (impl_Motion.ls N) rfl rfl ?_
  intro ds R k y h
  cases ds with
  | nil => exact none_some h
  | cons d0 ds =>
  cases ds with
  | nil => exact none_some h
  | cons d1 ds =>
  cases ds with
  | nil => exact none_some h
  | cons d2 ds =>
  cases ds with
  | nil => exact none_some h
  | cons d3 ds =>
  cases ds with
  | cons _ _ => exact none_some h
  | nil =>
  have h0 : (castDm (.pair (.sl 2 (.int .i64)) (.pair (.int .i64) (.pair (.int .i64) .unit))) .imm d0 fun x0 => castDm (.int .i64) .imm d1 fun x1 => castDm (.int .i64) .imm d2 fun x2 => castDm (.int .i64) .imm d3 fun x3 => bindO (impl_Motion N x0 x1 x2 x3) fun r => k [⟨(.int .i64), .imm, r⟩] []) = some y := h
  clear h
  obtain ⟨x0, rfl, h1⟩ := castDm_eq h0
  obtain ⟨x1, rfl, h2⟩ := castDm_eq h1
  obtain ⟨x2, rfl, h3⟩ := castDm_eq h2
  obtain ⟨x3, rfl, h4⟩ := castDm_eq h3
  exact con_fin (impl_Motion.b N x0 x1 x2 x3) h4
theorem impl_Motion.det (N : Nat) : ConDet (impl_Motion.con N) := by
  intro ds R k y h
  cases ds with
  | nil => exact none_some h
  | cons d0 ds =>
  cases ds with
  | nil => exact none_some h
  | cons d1 ds =>
  cases ds with
  | nil => exact none_some h
  | cons d2 ds =>
  cases ds with
  | nil => exact none_some h
  | cons d3 ds =>
  cases ds with
  | cons _ _ => exact none_some h
  | nil =>
  have h0 : (castDm (.pair (.sl 2 (.int .i64)) (.pair (.int .i64) (.pair (.int .i64) .unit))) .imm d0 fun x0 => castDm (.int .i64) .imm d1 fun x1 => castDm (.int .i64) .imm d2 fun x2 => castDm (.int .i64) .imm d3 fun x3 => bindO (impl_Motion N x0 x1 x2 x3) fun r => k [⟨(.int .i64), .imm, r⟩] []) = some y := h
  clear h
  obtain ⟨x0, rfl, h1⟩ := castDm_eq h0
  obtain ⟨x1, rfl, h2⟩ := castDm_eq h1
  obtain ⟨x2, rfl, h3⟩ := castDm_eq h2
  obtain ⟨x3, rfl, h4⟩ := castDm_eq h3
  obtain ⟨r, e, h⟩ := bindO_some h4
  refine ⟨_, _, h, fun k' => ?_⟩
  show (castDm (.pair (.sl 2 (.int .i64)) (.pair (.int .i64) (.pair (.int .i64) .unit))) .imm (⟨(.pair (.sl 2 (.int .i64)) (.pair (.int .i64) (.pair (.int .i64) .unit))), .imm, x0⟩ : Dy) fun x0 => castDm (.int .i64) .imm (⟨(.int .i64), .imm, x1⟩ : Dy) fun x1 => castDm (.int .i64) .imm (⟨(.int .i64), .imm, x2⟩ : Dy) fun x2 => castDm (.int .i64) .imm (⟨(.int .i64), .imm, x3⟩ : Dy) fun x3 => bindO (impl_Motion N x0 x1 x2 x3) fun r => k' [⟨(.int .i64), .imm, r⟩] []) = _
  simp only [castDm_self]
  rw [e]
  rfl
noncomputable def slices_Clone_Sint64_int64.con (N : Nat) : Con := { modes := [.v], ptrs := [false], fn := fun ds k => match ds with | [d0] => castDm (.sl 2 (.int .i64)) .imm d0 fun x0 => bindO (slices_Clone_Sint64_int64 N x0) fun r => k [⟨(.sl 2 (.int .i64)), (.own .imm), r⟩] [] | _ => none }
noncomputable def slices_Clone_Sint64_int64.cfg (N : Nat) : Cfg := { ty := tys, keep := [], flt := [], elm := [(22, (.own .imm)), (23, (.own .imm)), (24, (.pr (.own .imm) .imm)), (25, (.pr (.own .imm) .imm)), (54, (.pr (.own .imm) .imm)), (55, (.pr (.own .imm) .imm))], live := [], ord := [], con := [], loops := [], joins := [] }
theorem slices_Clone_Sint64_int64.cons (N : Nat) : ConsOk Try.prog (slices_Clone_Sint64_int64.cfg N).con := consOk_nil
theorem slices_Clone_Sint64_int64.ls (N : Nat) : LoopsOk Try.prog (slices_Clone_Sint64_int64.cfg N) (fnBody Try.f35) := loopsL (l := []) (by kernel_rfl) trivial
theorem slices_Clone_Sint64_int64.pu {R : Type} (N : Nat) (x0 : den (.sl 2 (.int .i64))) (f : _ → Option R) : Psh (slices_Clone_Sint64_int64 N x0) (slices_Clone_Sint64_int64.g N x0 f) f := by
  unfold slices_Clone_Sint64_int64 slices_Clone_Sint64_int64.g
  repeat' (first | exact psh_pure | exact psh_none | refine psh_ifB ?_ ?_ | refine psh_same ?_ ?_ | refine psh_bindO fun _ => ?_)
theorem slices_Clone_Sint64_int64.b (N : Nat) (x0 : den (.sl 2 (.int .i64))) : body (slices_Clone_Sint64_int64.cfg N) N Try.f35 [.one] [.v] [(false, (.own .imm))] [⟨(.sl 2 (.int .i64)), .imm, x0⟩] (fun r i => some (r, i)) = slices_Clone_Sint64_int64.g N x0 fun r => some ([⟨(.sl 2 (.int .i64)), (.own .imm), r⟩], []) := by kernel_rfl
theorem slices_Clone_Sint64_int64.ok (N : Nat) : ConOk Try.prog 35 [.one] (slices_Clone_Sint64_int64.con N) := by
  refine conOk_mk (g := slices_Clone_Sint64_int64.cfg N) (N := N) (res := [(false, (.own .imm))]) tys_ok (slices_Clone_Sint64_int64.cons N) mixed Try.func35 (slices_Clone_Sint64_int64.ls N) rfl rfl ?_
  intro ds R k y h
  cases ds with
  | nil => exact none_some h
  | cons d0 ds =>
  cases ds with
  | cons _ _ => exact none_some h
  | nil =>
  have h0 : (castDm (.sl 2 (.int .i64)) .imm d0 fun x0 => bindO (slices_Clone_Sint64_int64 N x0) fun r => k [⟨(.sl 2 (.int .i64)), (.own .imm), r⟩] []) = some y := h
  clear h
  obtain ⟨x0, rfl, h1⟩ := castDm_eq h0
  exact con_fin' (slices_Clone_Sint64_int64.b N x0) (slices_Clone_Sint64_int64.pu N x0 _) h1
theorem slices_Clone_Sint64_int64.det (N : Nat) : ConDet (slices_Clone_Sint64_int64.con N) := by
  intro ds R k y h
  cases ds with
  | nil => exact none_some h
  | cons d0 ds =>
  cases ds with
  | cons _ _ => exact none_some h
  | nil =>
  have h0 : (castDm (.sl 2 (.int .i64)) .imm d0 fun x0 => bindO (slices_Clone_Sint64_int64 N x0) fun r => k [⟨(.sl 2 (.int .i64)), (.own .imm), r⟩] []) = some y := h
  clear h
  obtain ⟨x0, rfl, h1⟩ := castDm_eq h0
  obtain ⟨r, e, h⟩ := bindO_some h1
  refine ⟨_, _, h, fun k' => ?_⟩
  show (castDm (.sl 2 (.int .i64)) .imm (⟨(.sl 2 (.int .i64)), .imm, x0⟩ : Dy) fun x0 => bindO (slices_Clone_Sint64_int64 N x0) fun r => k' [⟨(.sl 2 (.int .i64)), (.own .imm), r⟩] []) = _
  simp only [castDm_self]
  rw [e]
  rfl
noncomputable def impl_ownBuf.con (N : Nat) : Con := { modes := [.v], ptrs := [false], fn := fun ds k => match ds with | [d0] => castDm (.pair (.sl 2 (.int .i64)) (.pair (.int .i64) (.pair (.int .i64) .unit))) .imm d0 fun x0 => bindO (impl_ownBuf N x0) fun r => k [⟨(.pair (.sl 2 (.int .i64)) (.pair (.int .i64) (.pair (.int .i64) .unit))), (.pr (.own .imm) .imm), r⟩] [] | _ => none }
noncomputable def impl_ownBuf.cfg (N : Nat) : Cfg := { ty := tys, keep := [5], flt := [], elm := [(22, (.own .imm)), (23, (.own .imm)), (24, (.pr (.own .imm) .imm)), (25, (.pr (.own .imm) .imm)), (54, (.pr (.own .imm) .imm)), (55, (.pr (.own .imm) .imm))], live := [], ord := [(1, [0, 1, 3, 4, 5, 6, 2, 7, 8])], con := [((35, [.one]), slices_Clone_Sint64_int64.con N)], loops := [], joins := [] }
theorem impl_ownBuf.cons (N : Nat) : ConsOk Try.prog (impl_ownBuf.cfg N).con := (consOk_cons (hb35) (slices_Clone_Sint64_int64.ok N) (slices_Clone_Sint64_int64.det N) consOk_nil)
theorem impl_ownBuf.ls (N : Nat) : LoopsOk Try.prog (impl_ownBuf.cfg N) (fnBody Try.f18) := loopsL (l := []) (by kernel_rfl) trivial
theorem impl_ownBuf.b (N : Nat) (x0 : den (.pair (.sl 2 (.int .i64)) (.pair (.int .i64) (.pair (.int .i64) .unit)))) : body (impl_ownBuf.cfg N) N Try.f18 [.one] [.v] [(false, (.pr (.own .imm) .imm))] [⟨(.pair (.sl 2 (.int .i64)) (.pair (.int .i64) (.pair (.int .i64) .unit))), .imm, x0⟩] (fun r i => some (r, i)) = bindO (impl_ownBuf N x0) fun r => some ([⟨(.pair (.sl 2 (.int .i64)) (.pair (.int .i64) (.pair (.int .i64) .unit))), (.pr (.own .imm) .imm), r⟩], []) := by
  show _ = bindF _ _
  conv => rhs; simp only [impl_ownBuf, bindF_ifB, bindF_bindO, bindF_pure, bindF_none, bindF_onSum]
  kernel_rfl
theorem impl_ownBuf.ok (N : Nat) : ConOk Try.prog 18 [.one] (impl_ownBuf.con N) := by
  refine conOk_mk (g := impl_ownBuf.cfg N) (N := N) (res := [(false, (.pr (.own .imm) .imm))]) tys_ok (impl_ownBuf.cons N) mixed Try.func18 (impl_ownBuf.ls N) rfl rfl ?_
  intro ds R k y h
  cases ds with
  | nil => exact none_some h
  | cons d0 ds =>
  cases ds with
  | cons _ _ => exact none_some h
  | nil =>
  have h0 : (castDm (.pair (.sl 2 (.int .i64)) (.pair (.int .i64) (.pair (.int .i64) .unit))) .imm d0 fun x0 => bindO (impl_ownBuf N x0) fun r => k [⟨(.pair (.sl 2 (.int .i64)) (.pair (.int .i64) (.pair (.int .i64) .unit))), (.pr (.own .imm) .imm), r⟩] []) = some y := h
  clear h
  obtain ⟨x0, rfl, h1⟩ := castDm_eq h0
  exact con_fin (impl_ownBuf.b N x0) h1
theorem impl_ownBuf.det (N : Nat) : ConDet (impl_ownBuf.con N) := by
  intro ds R k y h
  cases ds with
  | nil => exact none_some h
  | cons d0 ds =>
  cases ds with
  | cons _ _ => exact none_some h
  | nil =>
  have h0 : (castDm (.pair (.sl 2 (.int .i64)) (.pair (.int .i64) (.pair (.int .i64) .unit))) .imm d0 fun x0 => bindO (impl_ownBuf N x0) fun r => k [⟨(.pair (.sl 2 (.int .i64)) (.pair (.int .i64) (.pair (.int .i64) .unit))), (.pr (.own .imm) .imm), r⟩] []) = some y := h
  clear h
  obtain ⟨x0, rfl, h1⟩ := castDm_eq h0
  obtain ⟨r, e, h⟩ := bindO_some h1
  refine ⟨_, _, h, fun k' => ?_⟩
  show (castDm (.pair (.sl 2 (.int .i64)) (.pair (.int .i64) (.pair (.int .i64) .unit))) .imm (⟨(.pair (.sl 2 (.int .i64)) (.pair (.int .i64) (.pair (.int .i64) .unit))), .imm, x0⟩ : Dy) fun x0 => bindO (impl_ownBuf N x0) fun r => k' [⟨(.pair (.sl 2 (.int .i64)) (.pair (.int .i64) (.pair (.int .i64) .unit))), (.pr (.own .imm) .imm), r⟩] []) = _
  simp only [castDm_self]
  rw [e]
  rfl
noncomputable def impl_BufMove.con (N : Nat) : Con := { modes := [.v, .v, .v, .v], ptrs := [false], fn := fun ds k => match ds with | [d0, d1, d2, d3] => castDm (.pair (.sl 2 (.int .i64)) (.pair (.int .i64) (.pair (.int .i64) .unit))) .imm d0 fun x0 => castDm (.int .i64) .imm d1 fun x1 => castDm (.int .i64) .imm d2 fun x2 => castDm (.int .i64) .imm d3 fun x3 => bindO (impl_BufMove N x0 x1 x2 x3) fun r => k [⟨(.pair (.sl 2 (.int .i64)) (.pair (.int .i64) (.pair (.int .i64) .unit))), (.pr (.own .imm) .imm), r⟩] [] | _ => none }
noncomputable def impl_BufMove.cfg (N : Nat) : Cfg := { ty := tys, keep := [12, 17], flt := [], elm := [(22, (.own .imm)), (23, (.own .imm)), (24, (.pr (.own .imm) .imm)), (25, (.pr (.own .imm) .imm)), (54, (.pr (.own .imm) .imm)), (55, (.pr (.own .imm) .imm))], live := [], ord := [], con := [((18, [.one]), impl_ownBuf.con N), ((6, [.one, .one, .one, .one]), impl_Motion.con N)], loops := [], joins := [] }
theorem impl_BufMove.cons (N : Nat) : ConsOk Try.prog (impl_BufMove.cfg N).con := (consOk_cons (hb18) (impl_ownBuf.ok N) (impl_ownBuf.det N) (consOk_cons (hb6) (impl_Motion.ok N) (impl_Motion.det N) consOk_nil))
theorem impl_BufMove.ls (N : Nat) : LoopsOk Try.prog (impl_BufMove.cfg N) (fnBody Try.f8) := loopsL (l := []) (by kernel_rfl) trivial
theorem impl_BufMove.b (N : Nat) (x0 : den (.pair (.sl 2 (.int .i64)) (.pair (.int .i64) (.pair (.int .i64) .unit)))) (x1 : den (.int .i64)) (x2 : den (.int .i64)) (x3 : den (.int .i64)) : body (impl_BufMove.cfg N) N Try.f8 [.one, .one, .one, .one] [.v, .v, .v, .v] [(false, (.pr (.own .imm) .imm))] [⟨(.pair (.sl 2 (.int .i64)) (.pair (.int .i64) (.pair (.int .i64) .unit))), .imm, x0⟩, ⟨(.int .i64), .imm, x1⟩, ⟨(.int .i64), .imm, x2⟩, ⟨(.int .i64), .imm, x3⟩] (fun r i => some (r, i)) = bindO (impl_BufMove N x0 x1 x2 x3) fun r => some ([⟨(.pair (.sl 2 (.int .i64)) (.pair (.int .i64) (.pair (.int .i64) .unit))), (.pr (.own .imm) .imm), r⟩], []) := by
  show _ = bindF _ _
  conv => rhs; simp only [impl_BufMove, bindF_ifB, bindF_bindO, bindF_pure, bindF_none, bindF_onSum]
  kernel_rfl
theorem impl_BufMove.ok (N : Nat) : ConOk Try.prog 8 [.one, .one, .one, .one] (impl_BufMove.con N) := by
  refine conOk_mk (g := impl_BufMove.cfg N) (N := N) (res := [(false, (.pr (.own .imm) .imm))]) tys_ok (impl_BufMove.cons N) mixed Try.func8 (impl_BufMove.ls N) rfl rfl ?_
  intro ds R k y h
  cases ds with
  | nil => exact none_some h
  | cons d0 ds =>
  cases ds with
  | nil => exact none_some h
  | cons d1 ds =>
  cases ds with
  | nil => exact none_some h
  | cons d2 ds =>
  cases ds with
  | nil => exact none_some h
  | cons d3 ds =>
  cases ds with
  | cons _ _ => exact none_some h
  | nil =>
  have h0 : (castDm (.pair (.sl 2 (.int .i64)) (.pair (.int .i64) (.pair (.int .i64) .unit))) .imm d0 fun x0 => castDm (.int .i64) .imm d1 fun x1 => castDm (.int .i64) .imm d2 fun x2 => castDm (.int .i64) .imm d3 fun x3 => bindO (impl_BufMove N x0 x1 x2 x3) fun r => k [⟨(.pair (.sl 2 (.int .i64)) (.pair (.int .i64) (.pair (.int .i64) .unit))), (.pr (.own .imm) .imm), r⟩] []) = some y := h
  clear h
  obtain ⟨x0, rfl, h1⟩ := castDm_eq h0
  obtain ⟨x1, rfl, h2⟩ := castDm_eq h1
  obtain ⟨x2, rfl, h3⟩ := castDm_eq h2
  obtain ⟨x3, rfl, h4⟩ := castDm_eq h3
  exact con_fin (impl_BufMove.b N x0 x1 x2 x3) h4
theorem impl_BufMove.det (N : Nat) : ConDet (impl_BufMove.con N) := by
  intro ds R k y h
  cases ds with
  | nil => exact none_some h
  | cons d0 ds =>
  cases ds with
  | nil => exact none_some h
  | cons d1 ds =>
  cases ds with
  | nil => exact none_some h
  | cons d2 ds =>
  cases ds with
  | nil => exact none_some h
  | cons d3 ds =>
  cases ds with
  | cons _ _ => exact none_some h
  | nil =>
  have h0 : (castDm (.pair (.sl 2 (.int .i64)) (.pair (.int .i64) (.pair (.int .i64) .unit))) .imm d0 fun x0 => castDm (.int .i64) .imm d1 fun x1 => castDm (.int .i64) .imm d2 fun x2 => castDm (.int .i64) .imm d3 fun x3 => bindO (impl_BufMove N x0 x1 x2 x3) fun r => k [⟨(.pair (.sl 2 (.int .i64)) (.pair (.int .i64) (.pair (.int .i64) .unit))), (.pr (.own .imm) .imm), r⟩] []) = some y := h
  clear h
  obtain ⟨x0, rfl, h1⟩ := castDm_eq h0
  obtain ⟨x1, rfl, h2⟩ := castDm_eq h1
  obtain ⟨x2, rfl, h3⟩ := castDm_eq h2
  obtain ⟨x3, rfl, h4⟩ := castDm_eq h3
  obtain ⟨r, e, h⟩ := bindO_some h4
  refine ⟨_, _, h, fun k' => ?_⟩
  show (castDm (.pair (.sl 2 (.int .i64)) (.pair (.int .i64) (.pair (.int .i64) .unit))) .imm (⟨(.pair (.sl 2 (.int .i64)) (.pair (.int .i64) (.pair (.int .i64) .unit))), .imm, x0⟩ : Dy) fun x0 => castDm (.int .i64) .imm (⟨(.int .i64), .imm, x1⟩ : Dy) fun x1 => castDm (.int .i64) .imm (⟨(.int .i64), .imm, x2⟩ : Dy) fun x2 => castDm (.int .i64) .imm (⟨(.int .i64), .imm, x3⟩ : Dy) fun x3 => bindO (impl_BufMove N x0 x1 x2 x3) fun r => k' [⟨(.pair (.sl 2 (.int .i64)) (.pair (.int .i64) (.pair (.int .i64) .unit))), (.pr (.own .imm) .imm), r⟩] []) = _
  simp only [castDm_self]
  rw [e]
  rfl
def laws_lwSame.sk4 : Skel := ⟨[.pv (.sl 2 (.int .i64)), .pv (.sl 2 (.int .i64)), .dead, .dead, .dead, .pv (.int .i64), .dead, .dead, .dead, .dead, .dead, .dead, .dead, .dead, .dead, .dead, .dead, .dead, .dead, .dead, .dead, .dead, .dead, .dead, .dead, .dead], []⟩
def laws_lwSame.xs4 : List XS := [⟨.exit 0, [], ⟨[.dead, .dead, .dead, .dead, .dead, .dead, .dead, .dead, .dead, .dead, .dead, .dead, .dead, .dead, .dead, .dead, .dead, .dead, .dead, .dead, .dead, .dead, .dead, .dead, .dead, .dead], []⟩⟩, ⟨.ret, [4], ⟨[.dead, .dead, .dead, .dead, .pv .bool, .dead, .dead, .dead, .dead, .dead, .dead, .dead, .dead, .dead, .dead, .dead, .dead, .dead, .dead, .dead, .dead, .dead, .dead, .dead, .dead, .dead], []⟩⟩]
noncomputable def laws_lwSame.con (N : Nat) : Con := { modes := [.v, .v], ptrs := [false], fn := fun ds k => match ds with | [d0, d1] => castDm (.sl 2 (.int .i64)) .imm d0 fun x0 => castDm (.sl 2 (.int .i64)) .imm d1 fun x1 => bindO (laws_lwSame N x0 x1) fun r => k [⟨.bool, .imm, r⟩] [] | _ => none }
noncomputable def laws_lwSame.cfg (N : Nat) : Cfg := { ty := tys, keep := [], flt := [], elm := [(22, (.own .imm)), (23, (.own .imm)), (24, (.pr (.own .imm) .imm)), (25, (.pr (.own .imm) .imm)), (54, (.pr (.own .imm) .imm)), (55, (.pr (.own .imm) .imm))], live := [(4, [0, 1, 5])], ord := [(6, [0, 1, 2, 3, 4, 5, 6, 7, 8])], con := [], loops := [(4, loopCon N laws_lwSame.sk4 laws_lwSame.xs4 (fun {R} => laws_lwSame.l4 (R := R) N))], joins := [] }
theorem laws_lwSame.cons (N : Nat) : ConsOk Try.prog (laws_lwSame.cfg N).con := consOk_nil
theorem laws_lwSame.h4 {R : Type} (N : Nat) (d : laws_lwSame.sk4.D) (kn : laws_lwSame.sk4.D → Option R) (kx : XD laws_lwSame.xs4 → Option R) : roundK (laws_lwSame.cfg N) N (nthLoop (fnBody Try.f9) 0) laws_lwSame.sk4 laws_lwSame.xs4 d kn kx = laws_lwSame.l4 N d kn kx := by kernel_rfl
theorem laws_lwSame.i4 (N : Nat) : LoopsOk Try.prog (laws_lwSame.cfg N) (nthLoop (fnBody Try.f9) 0) := loopsL (l := []) (by kernel_rfl) trivial
theorem laws_lwSame.o4 (N : Nat) : LoopOk Try.prog (nthLoop (fnBody Try.f9) 0) (loopCon N laws_lwSame.sk4 laws_lwSame.xs4 (fun {R} => laws_lwSame.l4 (R := R) N)) := loop_ok (g := laws_lwSame.cfg N) tys_ok (laws_lwSame.cons N) mixed (laws_lwSame.i4 N) (fun d kn kx => laws_lwSame.h4 N d kn kx)
theorem laws_lwSame.ls (N : Nat) : LoopsOk Try.prog (laws_lwSame.cfg N) (fnBody Try.f9) := loopsL (l := [nthLoop (fnBody Try.f9) 0]) (by kernel_rfl) ⟨loopOne (L0 := loopCon N laws_lwSame.sk4 laws_lwSame.xs4 (fun {R} => laws_lwSame.l4 (R := R) N)) (id := 4) (by kernel_rfl) (by kernel_rfl) (laws_lwSame.o4 N), trivial⟩
theorem laws_lwSame.q4 {R R' : Type} {N n : Nat} {d} {k} {g : R → Option R'} : bindF (loopP (laws_lwSame.l4 N) n d k) g = loopP (laws_lwSame.l4 N) n d fun e => bindF (k e) g := bindF_loopP (fun d kn kx => by simp only [laws_lwSame.l4, bindF_ifB, bindF_bindO, bindF_pure, bindF_none, bindF_onSum]) n d k
theorem laws_lwSame.b (N : Nat) (x0 : den (.sl 2 (.int .i64))) (x1 : den (.sl 2 (.int .i64))) : body (laws_lwSame.cfg N) N Try.f9 [.one, .one] [.v, .v] [(false, .imm)] [⟨(.sl 2 (.int .i64)), .imm, x0⟩, ⟨(.sl 2 (.int .i64)), .imm, x1⟩] (fun r i => some (r, i)) = bindO (laws_lwSame N x0 x1) fun r => some ([⟨.bool, .imm, r⟩], []) := by
  show _ = bindF _ _
  conv => rhs; simp only [laws_lwSame, bindF_ifB, bindF_bindO, bindF_pure, bindF_none, bindF_onSum, laws_lwSame.q4]
  kernel_rfl
theorem laws_lwSame.ok (N : Nat) : ConOk Try.prog 9 [.one, .one] (laws_lwSame.con N) := by
  refine conOk_mk (g := laws_lwSame.cfg N) (N := N) (res := [(false, .imm)]) tys_ok (laws_lwSame.cons N) mixed Try.func9 (laws_lwSame.ls N) rfl rfl ?_
  intro ds R k y h
  cases ds with
  | nil => exact none_some h
  | cons d0 ds =>
  cases ds with
  | nil => exact none_some h
  | cons d1 ds =>
  cases ds with
  | cons _ _ => exact none_some h
  | nil =>
  have h0 : (castDm (.sl 2 (.int .i64)) .imm d0 fun x0 => castDm (.sl 2 (.int .i64)) .imm d1 fun x1 => bindO (laws_lwSame N x0 x1) fun r => k [⟨.bool, .imm, r⟩] []) = some y := h
  clear h
  obtain ⟨x0, rfl, h1⟩ := castDm_eq h0
  obtain ⟨x1, rfl, h2⟩ := castDm_eq h1
  exact con_fin (laws_lwSame.b N x0 x1) h2
theorem laws_lwSame.det (N : Nat) : ConDet (laws_lwSame.con N) := by
  intro ds R k y h
  cases ds with
  | nil => exact none_some h
  | cons d0 ds =>
  cases ds with
  | nil => exact none_some h
  | cons d1 ds =>
  cases ds with
  | cons _ _ => exact none_some h
  | nil =>
  have h0 : (castDm (.sl 2 (.int .i64)) .imm d0 fun x0 => castDm (.sl 2 (.int .i64)) .imm d1 fun x1 => bindO (laws_lwSame N x0 x1) fun r => k [⟨.bool, .imm, r⟩] []) = some y := h
  clear h
  obtain ⟨x0, rfl, h1⟩ := castDm_eq h0
  obtain ⟨x1, rfl, h2⟩ := castDm_eq h1
  obtain ⟨r, e, h⟩ := bindO_some h2
  refine ⟨_, _, h, fun k' => ?_⟩
  show (castDm (.sl 2 (.int .i64)) .imm (⟨(.sl 2 (.int .i64)), .imm, x0⟩ : Dy) fun x0 => castDm (.sl 2 (.int .i64)) .imm (⟨(.sl 2 (.int .i64)), .imm, x1⟩ : Dy) fun x1 => bindO (laws_lwSame N x0 x1) fun r => k' [⟨.bool, .imm, r⟩] []) = _
  simp only [castDm_self]
  rw [e]
  rfl
end Go.AE.F
