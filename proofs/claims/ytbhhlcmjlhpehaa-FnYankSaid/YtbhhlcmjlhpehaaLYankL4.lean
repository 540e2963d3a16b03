/- The printed functions are what the program comes to: contracts. -/
import Derived.Test.YtbhhlcmjlhpehaaLYankL3
namespace Go.AE.F
open Go.AE Go.Proofs
set_option maxRecDepth 100000
noncomputable def spec_RingPop.con (N : Nat) : Con := { modes := [.v, .v, .v, .v], ptrs := [false], fn := fun ds k => match ds with | [d0, d1, d2, d3] => castDm (.pair (.sl 26 (.sl 2 (.int .i64))) (.pair (.int .i64) .unit)) .imm d0 fun x0 => castDm (.pair (.sl 2 (.int .i64)) (.pair (.int .i64) (.pair (.int .i64) .unit))) .imm d1 fun x1 => castDm (.int .i64) .imm d2 fun x2 => castDm (.int .i64) .imm d3 fun x3 => bindO (spec_RingPop N x0 x1 x2 x3) fun r => k [⟨(.pair (.pair (.sl 2 (.int .i64)) (.pair (.int .i64) (.pair (.int .i64) .unit))) (.pair (.int .i64) (.pair (.int .i64) (.pair (.int .i64) .unit)))), (.pr (.pr (.own .imm) .imm) .imm), r⟩] [] | _ => none }
noncomputable def spec_RingPop.cfg (N : Nat) : Cfg := { ty := tys, keep := [12, 16, 26, 27, 32], flt := [], elm := [(22, (.own .imm)), (23, (.own (.own .imm))), (24, (.pr (.own (.own .imm)) .imm)), (25, (.pr (.own (.own .imm)) .imm)), (26, (.own .imm)), (27, (.pr (.own .imm) .imm)), (28, (.pr (.own .imm) .imm)), (31, (.pr (.pr (.own .imm) .imm) .imm)), (32, (.pr (.pr (.own .imm) .imm) .imm)), (45, (.pr (.pr (.own .imm) .imm) (.pr (.own .imm) .imm))), (46, (.pr (.pr (.own .imm) .imm) (.pr (.own .imm) .imm))), (54, (.pr (.own .imm) .imm)), (55, (.pr (.own .imm) .imm))], live := [], ord := [], con := [((15, [.one]), spec_RingRight.con N), ((16, [.one]), spec_BufRight.con N), ((25, [.one]), spec_RingTurn.con N), ((17, [.one]), spec_RingTop.con N), ((26, [.one, .one, .one, .one]), spec_BufReplace.con N)], loops := [], joins := [] }
theorem spec_RingPop.cons (N : Nat) : ConsOk Try.prog (spec_RingPop.cfg N).con := (consOk_cons (hb15) (spec_RingRight.ok N) (spec_RingRight.det N) (consOk_cons (hb16) (spec_BufRight.ok N) (spec_BufRight.det N) (consOk_cons (hb25) (spec_RingTurn.ok N) (spec_RingTurn.det N) (consOk_cons (hb17) (spec_RingTop.ok N) (spec_RingTop.det N) (consOk_cons (hb26) (spec_BufReplace.ok N) (spec_BufReplace.det N) consOk_nil)))))
theorem spec_RingPop.ls (N : Nat) : LoopsOk Try.prog (spec_RingPop.cfg N) (fnBody Try.f10) := loopsL (l := []) (by kernel_rfl) trivial
theorem spec_RingPop.b (N : Nat) (x0 : den (.pair (.sl 26 (.sl 2 (.int .i64))) (.pair (.int .i64) .unit))) (x1 : den (.pair (.sl 2 (.int .i64)) (.pair (.int .i64) (.pair (.int .i64) .unit)))) (x2 : den (.int .i64)) (x3 : den (.int .i64)) : body (spec_RingPop.cfg N) N Try.f10 [.one, .one, .one, .one] [.v, .v, .v, .v] [(false, (.pr (.pr (.own .imm) .imm) .imm))] [⟨(.pair (.sl 26 (.sl 2 (.int .i64))) (.pair (.int .i64) .unit)), .imm, x0⟩, ⟨(.pair (.sl 2 (.int .i64)) (.pair (.int .i64) (.pair (.int .i64) .unit))), .imm, x1⟩, ⟨(.int .i64), .imm, x2⟩, ⟨(.int .i64), .imm, x3⟩] (fun r i => some (r, i)) = bindO (spec_RingPop N x0 x1 x2 x3) fun r => some ([⟨(.pair (.pair (.sl 2 (.int .i64)) (.pair (.int .i64) (.pair (.int .i64) .unit))) (.pair (.int .i64) (.pair (.int .i64) (.pair (.int .i64) .unit)))), (.pr (.pr (.own .imm) .imm) .imm), r⟩], []) := by
  show _ = bindF _ _
  conv => rhs; simp only [spec_RingPop, bindF_ifB, bindF_bindO, bindF_pure, bindF_none, bindF_onSum]
  kernel_rfl
theorem spec_RingPop.ok (N : Nat) : ConOk Try.prog 10 [.one, .one, .one, .one] (spec_RingPop.con N) := by
  refine conOk_mk (g := spec_RingPop.cfg N) (N := N) (res := [(false, (.pr (.pr (.own .imm) .imm) .imm))]) tys_ok (spec_RingPop.cons N) mixed Try.func10 (spec_RingPop.ls N) rfl rfl ?_
  intro ds R k y h
  cases ds with
  | nil => exact none_some h
  | cons d0 ds =>
  cases ds with
  | nil => exact none_some h
  | cons d1 ds =>
  cases ds with
  | nil => exact none_some h
  | cons d2 ds =>
  cases ds with
  | nil => exact none_some h
  | cons d3 ds =>
  cases ds with
  | cons _ _ => exact none_some h
  | nil =>
  have h0 : (castDm (.pair (.sl 26 (.sl 2 (.int .i64))) (.pair (.int .i64) .unit)) .imm d0 fun x0 => castDm (.pair (.sl 2 (.int .i64)) (.pair (.int .i64) (.pair (.int .i64) .unit))) .imm d1 fun x1 => castDm (.int .i64) .imm d2 fun x2 => castDm (.int .i64) .imm d3 fun x3 => bindO (spec_RingPop N x0 x1 x2 x3) fun r => k [⟨(.pair (.pair (.sl 2 (.int .i64)) (.pair (.int .i64) (.pair (.int .i64) .unit))) (.pair (.int .i64) (.pair (.int .i64) (.pair (.int .i64) .unit)))), (.pr (.pr (.own .imm) .imm) .imm), r⟩] []) = some y := h
  clear h
  obtain ⟨x0, rfl, h1⟩ := castDm_eq h0
  obtain ⟨x1, rfl, h2⟩ := castDm_eq h1
  obtain ⟨x2, rfl, h3⟩ := castDm_eq h2
  obtain ⟨x3, rfl, h4⟩ := castDm_eq h3
  exact con_fin (spec_RingPop.b N x0 x1 x2 x3) h4
theorem spec_RingPop.det (N : Nat) : ConDet (spec_RingPop.con N) := by
  intro ds R k y h
  cases ds with
  | nil => exact none_some h
  | cons d0 ds =>
  cases ds with
  | nil => exact none_some h
  | cons d1 ds =>
  cases ds with
  | nil => exact none_some h
  | cons d2 ds =>
  cases ds with
  | nil => exact none_some h
  | cons d3 ds =>
  cases ds with
  | cons _ _ => exact none_some h
  | nil =>
  have h0 : (castDm (.pair (.sl 26 (.sl 2 (.int .i64))) (.pair (.int .i64) .unit)) .imm d0 fun x0 => castDm (.pair (.sl 2 (.int .i64)) (.pair (.int .i64) (.pair (.int .i64) .unit))) .imm d1 fun x1 => castDm (.int .i64) .imm d2 fun x2 => castDm (.int .i64) .imm d3 fun x3 => bindO (spec_RingPop N x0 x1 x2 x3) fun r => k [⟨(.pair (.pair (.sl 2 (.int .i64)) (.pair (.int .i64) (.pair (.int .i64) .unit))) (.pair (.int .i64) (.pair (.int .i64) (.pair (.int .i64) .unit)))), (.pr (.pr (.own .imm) .imm) .imm), r⟩] []) = some y := h
  clear h
  obtain ⟨x0, rfl, h1⟩ := castDm_eq h0
  obtain ⟨x1, rfl, h2⟩ := castDm_eq h1
  obtain ⟨x2, rfl, h3⟩ := castDm_eq h2
  obtain ⟨x3, rfl, h4⟩ := castDm_eq h3
  obtain ⟨r, e, h⟩ := bindO_some h4
  refine ⟨_, _, h, fun k' => ?_⟩
  show (castDm (.pair (.sl 26 (.sl 2 (.int .i64))) (.pair (.int .i64) .unit)) .imm (⟨(.pair (.sl 26 (.sl 2 (.int .i64))) (.pair (.int .i64) .unit)), .imm, x0⟩ : Dy) fun x0 => castDm (.pair (.sl 2 (.int .i64)) (.pair (.int .i64) (.pair (.int .i64) .unit))) .imm (⟨(.pair (.sl 2 (.int .i64)) (.pair (.int .i64) (.pair (.int .i64) .unit))), .imm, x1⟩ : Dy) fun x1 => castDm (.int .i64) .imm (⟨(.int .i64), .imm, x2⟩ : Dy) fun x2 => castDm (.int .i64) .imm (⟨(.int .i64), .imm, x3⟩ : Dy) fun x3 => bindO (spec_RingPop N x0 x1 x2 x3) fun r => k' [⟨(.pair (.pair (.sl 2 (.int .i64)) (.pair (.int .i64) (.pair (.int .i64) .unit))) (.pair (.int .i64) (.pair (.int .i64) (.pair (.int .i64) .unit)))), (.pr (.pr (.own .imm) .imm) .imm), r⟩] []) = _
  simp only [castDm_self]
  rw [e]
  rfl
def impl_ownLists.sk3 : Skel := ⟨[.dead, .dead, .dead, .ov 50 [], .dead, .dead, .dead, .pv (.sl 26 (.sl 2 (.int .i64))), .pv (.int .i64), .pv (.int .i64), .dead, .dead, .dead, .dead, .dead, .dead, .dead, .dead, .dead, .dead], [⟨50, (.sl 26 (.sl 2 (.int .i64))), (.own (.own .imm)), false, false⟩]⟩
def impl_ownLists.xs3 : List XS := [⟨.exit 0, [3], ⟨[.dead, .dead, .dead, .ov 50 [], .dead, .dead, .dead, .dead, .dead, .dead, .dead, .dead, .dead, .dead, .dead, .dead, .dead, .dead, .dead, .dead], [⟨50, (.sl 26 (.sl 2 (.int .i64))), (.own (.own .imm)), false, false⟩]⟩⟩]
noncomputable def impl_ownLists.con (N : Nat) : Con := { modes := [.v], ptrs := [false], fn := fun ds k => match ds with | [d0] => castDm (.sl 26 (.sl 2 (.int .i64))) .imm d0 fun x0 => bindO (impl_ownLists N x0) fun r => k [⟨(.sl 26 (.sl 2 (.int .i64))), (.own (.own .imm)), r⟩] [] | _ => none }
noncomputable def impl_ownLists.cfg (N : Nat) : Cfg := { ty := tys, keep := [15], flt := [], elm := [(22, (.own .imm)), (23, (.own (.own .imm))), (24, (.pr (.own (.own .imm)) .imm)), (25, (.pr (.own (.own .imm)) .imm)), (26, (.own .imm)), (27, (.pr (.own .imm) .imm)), (28, (.pr (.own .imm) .imm)), (31, (.pr (.pr (.own .imm) .imm) .imm)), (32, (.pr (.pr (.own .imm) .imm) .imm)), (45, (.pr (.pr (.own .imm) .imm) (.pr (.own .imm) .imm))), (46, (.pr (.pr (.own .imm) .imm) (.pr (.own .imm) .imm))), (54, (.pr (.own .imm) .imm)), (55, (.pr (.own .imm) .imm))], live := [(3, [3, 7, 8, 9])], ord := [], con := [((23, [.one]), slices_Clone_Sint64_int64.con N)], loops := [(3, loopCon N impl_ownLists.sk3 impl_ownLists.xs3 (fun {R} => impl_ownLists.l3 (R := R) N))], joins := [] }
theorem impl_ownLists.cons (N : Nat) : ConsOk Try.prog (impl_ownLists.cfg N).con := (consOk_cons (hb23) (slices_Clone_Sint64_int64.ok N) (slices_Clone_Sint64_int64.det N) consOk_nil)
theorem impl_ownLists.h3 {R : Type} (N : Nat) (d : impl_ownLists.sk3.D) (kn : impl_ownLists.sk3.D → Option R) (kx : XD impl_ownLists.xs3 → Option R) : roundK (impl_ownLists.cfg N) N (nthLoop (fnBody Try.f41) 0) impl_ownLists.sk3 impl_ownLists.xs3 d kn kx = impl_ownLists.l3 N d kn kx := by kernel_rfl
theorem impl_ownLists.i3 (N : Nat) : LoopsOk Try.prog (impl_ownLists.cfg N) (nthLoop (fnBody Try.f41) 0) := loopsL (l := []) (by kernel_rfl) trivial
theorem impl_ownLists.o3 (N : Nat) : LoopOk Try.prog (nthLoop (fnBody Try.f41) 0) (loopCon N impl_ownLists.sk3 impl_ownLists.xs3 (fun {R} => impl_ownLists.l3 (R := R) N)) := loop_ok (g := impl_ownLists.cfg N) tys_ok (impl_ownLists.cons N) mixed (impl_ownLists.i3 N) (fun d kn kx => impl_ownLists.h3 N d kn kx)
theorem impl_ownLists.ls (N : Nat) : LoopsOk Try.prog (impl_ownLists.cfg N) (fnBody Try.f41) := loopsL (l := [nthLoop (fnBody Try.f41) 0]) (by kernel_rfl) ⟨loopOne (L0 := loopCon N impl_ownLists.sk3 impl_ownLists.xs3 (fun {R} => impl_ownLists.l3 (R := R) N)) (id := 3) (by kernel_rfl) (by kernel_rfl) (impl_ownLists.o3 N), trivial⟩
theorem impl_ownLists.q3 {R R' : Type} {N n : Nat} {d} {k} {g : R → Option R'} : bindF (loopP (impl_ownLists.l3 N) n d k) g = loopP (impl_ownLists.l3 N) n d fun e => bindF (k e) g := bindF_loopP (fun d kn kx => by simp only [impl_ownLists.l3, bindF_ifB, bindF_bindO, bindF_pure, bindF_none, bindF_onSum]) n d k
theorem impl_ownLists.b (N : Nat) (x0 : den (.sl 26 (.sl 2 (.int .i64)))) : body (impl_ownLists.cfg N) N Try.f41 [.one] [.v] [(false, (.own (.own .imm)))] [⟨(.sl 26 (.sl 2 (.int .i64))), .imm, x0⟩] (fun r i => some (r, i)) = bindO (impl_ownLists N x0) fun r => some ([⟨(.sl 26 (.sl 2 (.int .i64))), (.own (.own .imm)), r⟩], []) := by
  show _ = bindF _ _
  conv => rhs; simp only [impl_ownLists, bindF_ifB, bindF_bindO, bindF_pure, bindF_none, bindF_onSum, impl_ownLists.q3]
  kernel_rfl
theorem impl_ownLists.ok (N : Nat) : ConOk Try.prog 41 [.one] (impl_ownLists.con N) := by
  refine conOk_mk (g := impl_ownLists.cfg N) (N := N) (res := [(false, (.own (.own .imm)))]) tys_ok (impl_ownLists.cons N) mixed Try.func41 (impl_ownLists.ls N) rfl rfl ?_
  intro ds R k y h
  cases ds with
  | nil => exact none_some h
  | cons d0 ds =>
  cases ds with
  | cons _ _ => exact none_some h
  | nil =>
  have h0 : (castDm (.sl 26 (.sl 2 (.int .i64))) .imm d0 fun x0 => bindO (impl_ownLists N x0) fun r => k [⟨(.sl 26 (.sl 2 (.int .i64))), (.own (.own .imm)), r⟩] []) = some y := h
  clear h
  obtain ⟨x0, rfl, h1⟩ := castDm_eq h0
  exact con_fin (impl_ownLists.b N x0) h1
theorem impl_ownLists.det (N : Nat) : ConDet (impl_ownLists.con N) := by
  intro ds R k y h
  cases ds with
  | nil => exact none_some h
  | cons d0 ds =>
  cases ds with
  | cons _ _ => exact none_some h
  | nil =>
  have h0 : (castDm (.sl 26 (.sl 2 (.int .i64))) .imm d0 fun x0 => bindO (impl_ownLists N x0) fun r => k [⟨(.sl 26 (.sl 2 (.int .i64))), (.own (.own .imm)), r⟩] []) = some y := h
  clear h
  obtain ⟨x0, rfl, h1⟩ := castDm_eq h0
  obtain ⟨r, e, h⟩ := bindO_some h1
  refine ⟨_, _, h, fun k' => ?_⟩
  show (castDm (.sl 26 (.sl 2 (.int .i64))) .imm (⟨(.sl 26 (.sl 2 (.int .i64))), .imm, x0⟩ : Dy) fun x0 => bindO (impl_ownLists N x0) fun r => k' [⟨(.sl 26 (.sl 2 (.int .i64))), (.own (.own .imm)), r⟩] []) = _
  simp only [castDm_self]
  rw [e]
  rfl
noncomputable def impl_ownRing.con (N : Nat) : Con := { modes := [.v], ptrs := [false], fn := fun ds k => match ds with | [d0] => castDm (.pair (.sl 26 (.sl 2 (.int .i64))) (.pair (.int .i64) .unit)) .imm d0 fun x0 => bindO (impl_ownRing N x0) fun r => k [⟨(.pair (.sl 26 (.sl 2 (.int .i64))) (.pair (.int .i64) .unit)), (.pr (.own (.own .imm)) .imm), r⟩] [] | _ => none }
noncomputable def impl_ownRing.cfg (N : Nat) : Cfg := { ty := tys, keep := [5], flt := [], elm := [(22, (.own .imm)), (23, (.own (.own .imm))), (24, (.pr (.own (.own .imm)) .imm)), (25, (.pr (.own (.own .imm)) .imm)), (26, (.own .imm)), (27, (.pr (.own .imm) .imm)), (28, (.pr (.own .imm) .imm)), (31, (.pr (.pr (.own .imm) .imm) .imm)), (32, (.pr (.pr (.own .imm) .imm) .imm)), (45, (.pr (.pr (.own .imm) .imm) (.pr (.own .imm) .imm))), (46, (.pr (.pr (.own .imm) .imm) (.pr (.own .imm) .imm))), (54, (.pr (.own .imm) .imm)), (55, (.pr (.own .imm) .imm))], live := [], ord := [(1, [0, 1, 3, 4, 2, 5, 6])], con := [((41, [.one]), impl_ownLists.con N)], loops := [], joins := [] }
theorem impl_ownRing.cons (N : Nat) : ConsOk Try.prog (impl_ownRing.cfg N).con := (consOk_cons (hb41) (impl_ownLists.ok N) (impl_ownLists.det N) consOk_nil)
theorem impl_ownRing.ls (N : Nat) : LoopsOk Try.prog (impl_ownRing.cfg N) (fnBody Try.f27) := loopsL (l := []) (by kernel_rfl) trivial
theorem impl_ownRing.b (N : Nat) (x0 : den (.pair (.sl 26 (.sl 2 (.int .i64))) (.pair (.int .i64) .unit))) : body (impl_ownRing.cfg N) N Try.f27 [.one] [.v] [(false, (.pr (.own (.own .imm)) .imm))] [⟨(.pair (.sl 26 (.sl 2 (.int .i64))) (.pair (.int .i64) .unit)), .imm, x0⟩] (fun r i => some (r, i)) = bindO (impl_ownRing N x0) fun r => some ([⟨(.pair (.sl 26 (.sl 2 (.int .i64))) (.pair (.int .i64) .unit)), (.pr (.own (.own .imm)) .imm), r⟩], []) := by
  show _ = bindF _ _
  conv => rhs; simp only [impl_ownRing, bindF_ifB, bindF_bindO, bindF_pure, bindF_none, bindF_onSum]
  kernel_rfl
theorem impl_ownRing.ok (N : Nat) : ConOk Try.prog 27 [.one] (impl_ownRing.con N) := by
  refine conOk_mk (g := impl_ownRing.cfg N) (N := N) (res := [(false, (.pr (.own (.own .imm)) .imm))]) tys_ok (impl_ownRing.cons N) mixed Try.func27 (impl_ownRing.ls N) rfl rfl ?_
  intro ds R k y h
  cases ds with
  | nil => exact none_some h
  | cons d0 ds =>
  cases ds with
  | cons _ _ => exact none_some h
  | nil =>
  have h0 : (castDm (.pair (.sl 26 (.sl 2 (.int .i64))) (.pair (.int .i64) .unit)) .imm d0 fun x0 => bindO (impl_ownRing N x0) fun r => k [⟨(.pair (.sl 26 (.sl 2 (.int .i64))) (.pair (.int .i64) .unit)), (.pr (.own (.own .imm)) .imm), r⟩] []) = some y := h
  clear h
  obtain ⟨x0, rfl, h1⟩ := castDm_eq h0
  exact con_fin (impl_ownRing.b N x0) h1
theorem impl_ownRing.det (N : Nat) : ConDet (impl_ownRing.con N) := by
  intro ds R k y h
  cases ds with
  | nil => exact none_some h
  | cons d0 ds =>
  cases ds with
  | cons _ _ => exact none_some h
  | nil =>
  have h0 : (castDm (.pair (.sl 26 (.sl 2 (.int .i64))) (.pair (.int .i64) .unit)) .imm d0 fun x0 => bindO (impl_ownRing N x0) fun r => k [⟨(.pair (.sl 26 (.sl 2 (.int .i64))) (.pair (.int .i64) .unit)), (.pr (.own (.own .imm)) .imm), r⟩] []) = some y := h
  clear h
  obtain ⟨x0, rfl, h1⟩ := castDm_eq h0
  obtain ⟨r, e, h⟩ := bindO_some h1
  refine ⟨_, _, h, fun k' => ?_⟩
  show (castDm (.pair (.sl 26 (.sl 2 (.int .i64))) (.pair (.int .i64) .unit)) .imm (⟨(.pair (.sl 26 (.sl 2 (.int .i64))) (.pair (.int .i64) .unit)), .imm, x0⟩ : Dy) fun x0 => bindO (impl_ownRing N x0) fun r => k' [⟨(.pair (.sl 26 (.sl 2 (.int .i64))) (.pair (.int .i64) .unit)), (.pr (.own (.own .imm)) .imm), r⟩] []) = _
  simp only [castDm_self]
  rw [e]
  rfl
noncomputable def impl_RingTurn.con (N : Nat) : Con := { modes := [.v], ptrs := [false], fn := fun ds k => match ds with | [d0] => castDm (.pair (.sl 26 (.sl 2 (.int .i64))) (.pair (.int .i64) .unit)) .imm d0 fun x0 => bindO (impl_RingTurn N x0) fun r => k [⟨(.pair (.sl 26 (.sl 2 (.int .i64))) (.pair (.int .i64) .unit)), (.pr (.own (.own .imm)) .imm), r⟩] [] | _ => none }
noncomputable def impl_RingTurn.cfg (N : Nat) : Cfg := { ty := tys, keep := [5, 7, 19], flt := [], elm := [(22, (.own .imm)), (23, (.own (.own .imm))), (24, (.pr (.own (.own .imm)) .imm)), (25, (.pr (.own (.own .imm)) .imm)), (26, (.own .imm)), (27, (.pr (.own .imm) .imm)), (28, (.pr (.own .imm) .imm)), (31, (.pr (.pr (.own .imm) .imm) .imm)), (32, (.pr (.pr (.own .imm) .imm) .imm)), (45, (.pr (.pr (.own .imm) .imm) (.pr (.own .imm) .imm))), (46, (.pr (.pr (.own .imm) .imm) (.pr (.own .imm) .imm))), (54, (.pr (.own .imm) .imm)), (55, (.pr (.own .imm) .imm))], live := [], ord := [(3, [0, 1, 2, 3, 4, 5, 6, 7, 8])], con := [((27, [.one]), impl_ownRing.con N), ((22, [.one]), impl_RingRight.con N), ((24, [.one]), impl_size_SSint64.con N)], loops := [], joins := [] }
theorem impl_RingTurn.cons (N : Nat) : ConsOk Try.prog (impl_RingTurn.cfg N).con := (consOk_cons (hb27) (impl_ownRing.ok N) (impl_ownRing.det N) (consOk_cons (hb22) (impl_RingRight.ok N) (impl_RingRight.det N) (consOk_cons (hb24) (impl_size_SSint64.ok N) (impl_size_SSint64.det N) consOk_nil)))
theorem impl_RingTurn.ls (N : Nat) : LoopsOk Try.prog (impl_RingTurn.cfg N) (fnBody Try.f11) := loopsL (l := []) (by kernel_rfl) trivial
theorem impl_RingTurn.b (N : Nat) (x0 : den (.pair (.sl 26 (.sl 2 (.int .i64))) (.pair (.int .i64) .unit))) : body (impl_RingTurn.cfg N) N Try.f11 [.one] [.v] [(false, (.pr (.own (.own .imm)) .imm))] [⟨(.pair (.sl 26 (.sl 2 (.int .i64))) (.pair (.int .i64) .unit)), .imm, x0⟩] (fun r i => some (r, i)) = bindO (impl_RingTurn N x0) fun r => some ([⟨(.pair (.sl 26 (.sl 2 (.int .i64))) (.pair (.int .i64) .unit)), (.pr (.own (.own .imm)) .imm), r⟩], []) := by
  show _ = bindF _ _
  conv => rhs; simp only [impl_RingTurn, bindF_ifB, bindF_bindO, bindF_pure, bindF_none, bindF_onSum]
  kernel_rfl
theorem impl_RingTurn.ok (N : Nat) : ConOk Try.prog 11 [.one] (impl_RingTurn.con N) := by
  refine conOk_mk (g := impl_RingTurn.cfg N) (N := N) (res := [(false, (.pr (.own (.own .imm)) .imm))]) tys_ok (impl_RingTurn.cons N) mixed Try.func11 (impl_RingTurn.ls N) rfl rfl ?_
  intro ds R k y h
  cases ds with
  | nil => exact none_some h
  | cons d0 ds =>
  cases ds with
  | cons _ _ => exact none_some h
  | nil =>
  have h0 : (castDm (.pair (.sl 26 (.sl 2 (.int .i64))) (.pair (.int .i64) .unit)) .imm d0 fun x0 => bindO (impl_RingTurn N x0) fun r => k [⟨(.pair (.sl 26 (.sl 2 (.int .i64))) (.pair (.int .i64) .unit)), (.pr (.own (.own .imm)) .imm), r⟩] []) = some y := h
  clear h
  obtain ⟨x0, rfl, h1⟩ := castDm_eq h0
  exact con_fin (impl_RingTurn.b N x0) h1
theorem impl_RingTurn.det (N : Nat) : ConDet (impl_RingTurn.con N) := by
  intro ds R k y h
  cases ds with
  | nil => exact none_some h
  | cons d0 ds =>
  cases ds with
  | cons _ _ => exact none_some h
  | nil =>
  have h0 : (castDm (.pair (.sl 26 (.sl 2 (.int .i64))) (.pair (.int .i64) .unit)) .imm d0 fun x0 => bindO (impl_RingTurn N x0) fun r => k [⟨(.pair (.sl 26 (.sl 2 (.int .i64))) (.pair (.int .i64) .unit)), (.pr (.own (.own .imm)) .imm), r⟩] []) = some y := h
  clear h
  obtain ⟨x0, rfl, h1⟩ := castDm_eq h0
  obtain ⟨r, e, h⟩ := bindO_some h1
  refine ⟨_, _, h, fun k' => ?_⟩
  show (castDm (.pair (.sl 26 (.sl 2 (.int .i64))) (.pair (.int .i64) .unit)) .imm (⟨(.pair (.sl 26 (.sl 2 (.int .i64))) (.pair (.int .i64) .unit)), .imm, x0⟩ : Dy) fun x0 => bindO (impl_RingTurn N x0) fun r => k' [⟨(.pair (.sl 26 (.sl 2 (.int .i64))) (.pair (.int .i64) .unit)), (.pr (.own (.own .imm)) .imm), r⟩] []) = _
  simp only [castDm_self]
  rw [e]
  rfl
noncomputable def laws_FnYank.con (N : Nat) : Con := { modes := [.v], ptrs := [false], fn := fun ds k => match ds with | [d0] => castDm (.sl 5 (.int .u8)) .imm d0 fun x0 => bindO (laws_FnYank N x0) fun r => k [⟨.bool, .imm, r⟩] [] | _ => none }
noncomputable def laws_FnYank.cfg (N : Nat) : Cfg := { ty := tys, keep := [13, 18, 21, 61, 62, 72, 82, 121, 135, 147, 148, 149], flt := [], elm := [(22, (.own .imm)), (23, (.own (.own .imm))), (24, (.pr (.own (.own .imm)) .imm)), (25, (.pr (.own (.own .imm)) .imm)), (26, (.own .imm)), (27, (.pr (.own .imm) .imm)), (28, (.pr (.own .imm) .imm)), (31, (.pr (.pr (.own .imm) .imm) .imm)), (32, (.pr (.pr (.own .imm) .imm) .imm)), (45, (.pr (.pr (.own .imm) .imm) (.pr (.own .imm) .imm))), (46, (.pr (.pr (.own .imm) .imm) (.pr (.own .imm) .imm))), (54, (.pr (.own .imm) .imm)), (55, (.pr (.own .imm) .imm))], live := [], ord := [(10, [0, 1, 2, 3, 4, 5, 6, 7, 8, 9, 10, 11, 12, 13, 14, 15, 16, 17, 18, 19, 20, 21, 22, 23, 24, 25, 26, 27, 28, 29, 30, 31, 32, 33, 34]), (13, [0, 1, 2, 3, 4, 5, 6, 7, 8, 9, 10, 11]), (17, [0, 1, 2, 3, 4, 5, 6, 7, 8, 9, 10, 11, 12, 13, 14, 15, 16, 17, 18, 19, 20, 21, 22, 23, 24, 25, 26, 27, 28, 29, 30, 31, 32, 33, 34, 35, 36, 37, 38, 39, 40, 41, 42, 43, 44, 45, 46, 47, 48, 49, 50, 51, 52, 53, 54, 55, 56, 57, 58, 59, 60, 61, 62, 63])], con := [((4, [.one]), spec_DrawRingYank.con N), ((5, [.one, .one]), spec_RingYank.con N), ((6, [.one, .one]), impl_RingYank.con N), ((8, [.one]), impl_RingTop.con N), ((7, [.one, .one]), laws_lwSame.con N), ((9, [.one, .one, .one, .one]), impl_RingPop.con N), ((10, [.one, .one, .one, .one]), spec_RingPop.con N), ((11, [.one]), impl_RingTurn.con N)], loops := [], joins := [] }
theorem laws_FnYank.cons (N : Nat) : ConsOk Try.prog (laws_FnYank.cfg N).con := (consOk_cons (hb4) (spec_DrawRingYank.ok N) (spec_DrawRingYank.det N) (consOk_cons (hb5) (spec_RingYank.ok N) (spec_RingYank.det N) (consOk_cons (hb6) (impl_RingYank.ok N) (impl_RingYank.det N) (consOk_cons (hb8) (impl_RingTop.ok N) (impl_RingTop.det N) (consOk_cons (hb7) (laws_lwSame.ok N) (laws_lwSame.det N) (consOk_cons (hb9) (impl_RingPop.ok N) (impl_RingPop.det N) (consOk_cons (hb10) (spec_RingPop.ok N) (spec_RingPop.det N) (consOk_cons (hb11) (impl_RingTurn.ok N) (impl_RingTurn.det N) consOk_nil))))))))
theorem laws_FnYank.ls (N : Nat) : LoopsOk Try.prog (laws_FnYank.cfg N) (fnBody Try.f3) := loopsL (l := []) (by kernel_rfl) trivial
theorem laws_FnYank.b (N : Nat) (x0 : den (.sl 5 (.int .u8))) : body (laws_FnYank.cfg N) N Try.f3 [.one] [.v] [(false, .imm)] [⟨(.sl 5 (.int .u8)), .imm, x0⟩] (fun r i => some (r, i)) = bindO (laws_FnYank N x0) fun r => some ([⟨.bool, .imm, r⟩], []) := by
  show _ = bindF _ _
  conv => rhs; simp only [laws_FnYank, bindF_ifB, bindF_bindO, bindF_pure, bindF_none, bindF_onSum]
  kernel_rfl
theorem laws_FnYank.ok (N : Nat) : ConOk Try.prog 3 [.one] (laws_FnYank.con N) := by
  refine conOk_mk (g := laws_FnYank.cfg N) (N := N) (res := [(false, .imm)]) tys_ok (laws_FnYank.cons N) mixed Try.func3 (laws_FnYank.ls N) rfl rfl ?_
  intro ds R k y h
  cases ds with
  | nil => exact none_some h
  | cons d0 ds =>
  cases ds with
  | cons _ _ => exact none_some h
  | nil =>
  have h0 : (castDm (.sl 5 (.int .u8)) .imm d0 fun x0 => bindO (laws_FnYank N x0) fun r => k [⟨.bool, .imm, r⟩] []) = some y := h
  clear h
  obtain ⟨x0, rfl, h1⟩ := castDm_eq h0
  exact con_fin (laws_FnYank.b N x0) h1
theorem laws_FnYank.det (N : Nat) : ConDet (laws_FnYank.con N) := by
  intro ds R k y h
  cases ds with
  | nil => exact none_some h
  | cons d0 ds =>
  cases ds with
  | cons _ _ => exact none_some h
  | nil =>
  have h0 : (castDm (.sl 5 (.int .u8)) .imm d0 fun x0 => bindO (laws_FnYank N x0) fun r => k [⟨.bool, .imm, r⟩] []) = some y := h
  clear h
  obtain ⟨x0, rfl, h1⟩ := castDm_eq h0
  obtain ⟨r, e, h⟩ := bindO_some h1
  refine ⟨_, _, h, fun k' => ?_⟩
  show (castDm (.sl 5 (.int .u8)) .imm (⟨(.sl 5 (.int .u8)), .imm, x0⟩ : Dy) fun x0 => bindO (laws_FnYank N x0) fun r => k' [⟨.bool, .imm, r⟩] []) = _
  simp only [castDm_self]
  rw [e]
  rfl
end Go.AE.F
