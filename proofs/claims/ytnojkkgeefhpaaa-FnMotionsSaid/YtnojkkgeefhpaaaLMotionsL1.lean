/- The printed functions are what the program comes to: contracts. -/
import Derived.Test.YtnojkkgeefhpaaaLMotionsL0
namespace Go.AE.F
open Go.AE Go.Proofs
set_option maxRecDepth 100000
def spec_l03Start.sk1 : Skel := ⟨[.dead, .pv (.int .i64), .ptr 50 [], .dead, .dead, .dead, .dead, .dead, .dead, .dead, .dead, .dead, .dead, .dead, .dead, .dead, .dead, .dead, .dead], [⟨50, (.pair (.sl 2 (.int .i64)) (.pair (.int .i64) (.pair (.int .i64) .unit))), .imm, true, false⟩]⟩
def spec_l03Start.xs1 : List XS := [⟨.exit 0, [1], ⟨[.dead, .pv (.int .i64), .dead, .dead, .dead, .dead, .dead, .dead, .dead, .dead, .dead, .dead, .dead, .dead, .dead, .dead, .dead, .dead, .dead], []⟩⟩]
noncomputable def spec_l03Start.con (N : Nat) : Con := { modes := [.v, .v], ptrs := [false], fn := fun ds k => match ds with | [d0, d1] => castDm (.pair (.sl 2 (.int .i64)) (.pair (.int .i64) (.pair (.int .i64) .unit))) .imm d0 fun x0 => castDm (.int .i64) .imm d1 fun x1 => bindO (spec_l03Start N x0 x1) fun r => k [⟨(.int .i64), .imm, r⟩] [] | _ => none }
noncomputable def spec_l03Start.cfg (N : Nat) : Cfg := { ty := tys, keep := [], flt := [], elm := [(22, (.own .imm)), (23, (.own .imm)), (24, (.pr (.own .imm) .imm)), (25, (.pr (.own .imm) .imm)), (54, (.pr (.own .imm) .imm)), (55, (.pr (.own .imm) .imm))], live := [(1, [1, 2, 8, 9, 10, 11, 12, 13, 14])], ord := [], con := [], loops := [(1, loopCon N spec_l03Start.sk1 spec_l03Start.xs1 (fun {R} => spec_l03Start.l1 (R := R) N))], joins := [] }
theorem spec_l03Start.cons (N : Nat) : ConsOk Try.prog (spec_l03Start.cfg N).con := consOk_nil
theorem spec_l03Start.h1 {R : Type} (N : Nat) (d : spec_l03Start.sk1.D) (kn : spec_l03Start.sk1.D → Option R) (kx : XD spec_l03Start.xs1 → Option R) : roundK (spec_l03Start.cfg N) N (nthLoop (fnBody Try.f26) 0) spec_l03Start.sk1 spec_l03Start.xs1 d kn kx = spec_l03Start.l1 N d kn kx := by kernel_rfl
theorem spec_l03Start.i1 (N : Nat) : LoopsOk Try.prog (spec_l03Start.cfg N) (nthLoop (fnBody Try.f26) 0) := loopsL (l := []) (by kernel_rfl) trivial
theorem spec_l03Start.o1 (N : Nat) : LoopOk Try.prog (nthLoop (fnBody Try.f26) 0) (loopCon N spec_l03Start.sk1 spec_l03Start.xs1 (fun {R} => spec_l03Start.l1 (R := R) N)) := loop_ok (g := spec_l03Start.cfg N) tys_ok (spec_l03Start.cons N) mixed (spec_l03Start.i1 N) (fun d kn kx => spec_l03Start.h1 N d kn kx)
theorem spec_l03Start.ls (N : Nat) : LoopsOk Try.prog (spec_l03Start.cfg N) (fnBody Try.f26) := loopsL (l := [nthLoop (fnBody Try.f26) 0]) (by kernel_rfl) ⟨loopOne (L0 := loopCon N spec_l03Start.sk1 spec_l03Start.xs1 (fun {R} => spec_l03Start.l1 (R := R) N)) (id := 1) (by kernel_rfl) (by kernel_rfl) (spec_l03Start.o1 N), trivial⟩
theorem spec_l03Start.q1 {R R' : Type} {N n : Nat} {d} {k} {g : R → Option R'} : bindF (loopP (spec_l03Start.l1 N) n d k) g = loopP (spec_l03Start.l1 N) n d fun e => bindF (k e) g := bindF_loopP (fun d kn kx => by simp only [spec_l03Start.l1, bindF_ifB, bindF_bindO, bindF_pure, bindF_none, bindF_onSum]) n d k
theorem spec_l03Start.b (N : Nat) (x0 : den (.pair (.sl 2 (.int .i64)) (.pair (.int .i64) (.pair (.int .i64) .unit)))) (x1 : den (.int .i64)) : body (spec_l03Start.cfg N) N Try.f26 [.one, .one] [.v, .v] [(false, .imm)] [⟨(.pair (.sl 2 (.int .i64)) (.pair (.int .i64) (.pair (.int .i64) .unit))), .imm, x0⟩, ⟨(.int .i64), .imm, x1⟩] (fun r i => some (r, i)) = bindO (spec_l03Start N x0 x1) fun r => some ([⟨(.int .i64), .imm, r⟩], []) := by
  show _ = bindF _ _
  conv => rhs; simp only [spec_l03Start, bindF_ifB, bindF_bindO, bindF_pure, bindF_none, bindF_onSum, spec_l03Start.q1]
  kernel_rfl
theorem spec_l03Start.ok (N : Nat) : ConOk Try.prog 26 [.one, .one] (spec_l03Start.con N) := by
  refine conOk_mk (g := spec_l03Start.cfg N) (N := N) (res := [(false, .imm)]) tys_ok (spec_l03Start.cons N) mixed Try.func26 (spec_l03Start.ls N) rfl rfl ?_
  intro ds R k y h
  cases ds with
  | nil => exact none_some h
  | cons d0 ds =>
  cases ds with
  | nil => exact none_some h
  | cons d1 ds =>
  cases ds with
  | cons _ _ => exact none_some h
  | nil =>
  have h0 : (castDm (.pair (.sl 2 (.int .i64)) (.pair (.int .i64) (.pair (.int .i64) .unit))) .imm d0 fun x0 => castDm (.int .i64) .imm d1 fun x1 => bindO (spec_l03Start N x0 x1) fun r => k [⟨(.int .i64), .imm, r⟩] []) = some y := h
  clear h
  obtain ⟨x0, rfl, h1⟩ := castDm_eq h0
  obtain ⟨x1, rfl, h2⟩ := castDm_eq h1
  exact con_fin (spec_l03Start.b N x0 x1) h2
theorem spec_l03Start.det (N : Nat) : ConDet (spec_l03Start.con N) := by
  intro ds R k y h
  cases ds with
  | nil => exact none_some h
  | cons d0 ds =>
  cases ds with
  | nil => exact none_some h
  | cons d1 ds =>
  cases ds with
  | cons _ _ => exact none_some h
  | nil =>
  have h0 : (castDm (.pair (.sl 2 (.int .i64)) (.pair (.int .i64) (.pair (.int .i64) .unit))) .imm d0 fun x0 => castDm (.int .i64) .imm d1 fun x1 => bindO (spec_l03Start N x0 x1) fun r => k [⟨(.int .i64), .imm, r⟩] []) = some y := h
  clear h
  obtain ⟨x0, rfl, h1⟩ := castDm_eq h0
  obtain ⟨x1, rfl, h2⟩ := castDm_eq h1
  obtain ⟨r, e, h⟩ := bindO_some h2
  refine ⟨_, _, h, fun k' => ?_⟩
  show (castDm (.pair (.sl 2 (.int .i64)) (.pair (.int .i64) (.pair (.int .i64) .unit))) .imm (⟨(.pair (.sl 2 (.int .i64)) (.pair (.int .i64) (.pair (.int .i64) .unit))), .imm, x0⟩ : Dy) fun x0 => castDm (.int .i64) .imm (⟨(.int .i64), .imm, x1⟩ : Dy) fun x1 => bindO (spec_l03Start N x0 x1) fun r => k' [⟨(.int .i64), .imm, r⟩] []) = _
  simp only [castDm_self]
  rw [e]
  rfl
def spec_l03Spot.sk3 : Skel := ⟨[.dead, .pv (.int .i64), .ptr 50 [], .dead, .ptr 51 [], .pv (.int .i64), .pv (.int .i64), .dead, .dead, .dead, .dead, .dead, .dead, .dead, .dead, .dead, .dead, .dead, .dead, .dead, .dead, .dead, .dead, .dead, .dead, .dead, .dead], [⟨50, (.pair (.sl 2 (.int .i64)) (.pair (.int .i64) (.pair (.int .i64) .unit))), .imm, true, false⟩, ⟨51, (.pair (.int .i64) (.pair (.int .i64) .unit)), .imm, true, false⟩]⟩
def spec_l03Spot.xs3 : List XS := [⟨.exit 0, [1, 2, 4, 5], ⟨[.dead, .pv (.int .i64), .ptr 50 [], .dead, .ptr 51 [], .pv (.int .i64), .dead, .dead, .dead, .dead, .dead, .dead, .dead, .dead, .dead, .dead, .dead, .dead, .dead, .dead, .dead, .dead, .dead, .dead, .dead, .dead, .dead], [⟨50, (.pair (.sl 2 (.int .i64)) (.pair (.int .i64) (.pair (.int .i64) .unit))), .imm, true, false⟩, ⟨51, (.pair (.int .i64) (.pair (.int .i64) .unit)), .imm, true, false⟩]⟩⟩]
noncomputable def spec_l03Spot.con (N : Nat) : Con := { modes := [.v, .v], ptrs := [false], fn := fun ds k => match ds with | [d0, d1] => castDm (.pair (.sl 2 (.int .i64)) (.pair (.int .i64) (.pair (.int .i64) .unit))) .imm d0 fun x0 => castDm (.int .i64) .imm d1 fun x1 => bindO (spec_l03Spot N x0 x1) fun r => k [⟨(.pair (.int .i64) (.pair (.int .i64) .unit)), .imm, r⟩] [] | _ => none }
noncomputable def spec_l03Spot.cfg (N : Nat) : Cfg := { ty := tys, keep := [24], flt := [], elm := [(22, (.own .imm)), (23, (.own .imm)), (24, (.pr (.own .imm) .imm)), (25, (.pr (.own .imm) .imm)), (54, (.pr (.own .imm) .imm)), (55, (.pr (.own .imm) .imm))], live := [(3, [1, 2, 4, 5, 6])], ord := [], con := [((26, [.one, .one]), spec_l03Start.con N)], loops := [(3, loopCon N spec_l03Spot.sk3 spec_l03Spot.xs3 (fun {R} => spec_l03Spot.l3 (R := R) N))], joins := [(4, [⟨.normal, [1, 2, 4, 5, 6], ⟨[.dead, .pv (.int .i64), .ptr 50 [], .dead, .ptr 51 [], .pv (.int .i64), .pv (.int .i64), .dead, .dead, .dead, .dead, .dead, .dead, .dead, .dead, .dead, .dead, .dead, .dead, .dead, .dead, .dead, .dead, .dead, .dead, .dead, .dead], [⟨50, (.pair (.sl 2 (.int .i64)) (.pair (.int .i64) (.pair (.int .i64) .unit))), .imm, true, false⟩, ⟨51, (.pair (.int .i64) (.pair (.int .i64) .unit)), .imm, true, false⟩]⟩⟩])] }
theorem spec_l03Spot.cons (N : Nat) : ConsOk Try.prog (spec_l03Spot.cfg N).con := (consOk_cons (hb26) (spec_l03Start.ok N) (spec_l03Start.det N) consOk_nil)
theorem spec_l03Spot.h3 {R : Type} (N : Nat) (d : spec_l03Spot.sk3.D) (kn : spec_l03Spot.sk3.D → Option R) (kx : XD spec_l03Spot.xs3 → Option R) : roundK (spec_l03Spot.cfg N) N (nthLoop (fnBody Try.f12) 0) spec_l03Spot.sk3 spec_l03Spot.xs3 d kn kx = spec_l03Spot.l3 N d kn kx := by kernel_rfl
theorem spec_l03Spot.i3 (N : Nat) : LoopsOk Try.prog (spec_l03Spot.cfg N) (nthLoop (fnBody Try.f12) 0) := loopsL (l := []) (by kernel_rfl) trivial
theorem spec_l03Spot.o3 (N : Nat) : LoopOk Try.prog (nthLoop (fnBody Try.f12) 0) (loopCon N spec_l03Spot.sk3 spec_l03Spot.xs3 (fun {R} => spec_l03Spot.l3 (R := R) N)) := loop_ok (g := spec_l03Spot.cfg N) tys_ok (spec_l03Spot.cons N) mixed (spec_l03Spot.i3 N) (fun d kn kx => spec_l03Spot.h3 N d kn kx)
theorem spec_l03Spot.ls (N : Nat) : LoopsOk Try.prog (spec_l03Spot.cfg N) (fnBody Try.f12) := loopsL (l := [nthLoop (fnBody Try.f12) 0]) (by kernel_rfl) ⟨loopOne (L0 := loopCon N spec_l03Spot.sk3 spec_l03Spot.xs3 (fun {R} => spec_l03Spot.l3 (R := R) N)) (id := 3) (by kernel_rfl) (by kernel_rfl) (spec_l03Spot.o3 N), trivial⟩
theorem spec_l03Spot.q3 {R R' : Type} {N n : Nat} {d} {k} {g : R → Option R'} : bindF (loopP (spec_l03Spot.l3 N) n d k) g = loopP (spec_l03Spot.l3 N) n d fun e => bindF (k e) g := bindF_loopP (fun d kn kx => by simp only [spec_l03Spot.l3, bindF_ifB, bindF_bindO, bindF_pure, bindF_none, bindF_onSum]) n d k
theorem spec_l03Spot.b (N : Nat) (x0 : den (.pair (.sl 2 (.int .i64)) (.pair (.int .i64) (.pair (.int .i64) .unit)))) (x1 : den (.int .i64)) : body (spec_l03Spot.cfg N) N Try.f12 [.one, .one] [.v, .v] [(false, .imm)] [⟨(.pair (.sl 2 (.int .i64)) (.pair (.int .i64) (.pair (.int .i64) .unit))), .imm, x0⟩, ⟨(.int .i64), .imm, x1⟩] (fun r i => some (r, i)) = bindO (spec_l03Spot N x0 x1) fun r => some ([⟨(.pair (.int .i64) (.pair (.int .i64) .unit)), .imm, r⟩], []) := by
  show _ = bindF _ _
  conv => rhs; simp only [spec_l03Spot, bindF_ifB, bindF_bindO, bindF_pure, bindF_none, bindF_onSum, spec_l03Spot.q3]
  kernel_rfl
theorem spec_l03Spot.ok (N : Nat) : ConOk Try.prog 12 [.one, .one] (spec_l03Spot.con N) := by
  refine conOk_mk (g := spec_l03Spot.cfg N) (N := N) (res := [(false, .imm)]) tys_ok (spec_l03Spot.cons N) mixed Try.func12 (spec_l03Spot.ls N) rfl rfl ?_
  intro ds R k y h
  cases ds with
  | nil => exact none_some h
  | cons d0 ds =>
  cases ds with
  | nil => exact none_some h
  | cons d1 ds =>
  cases ds with
  | cons _ _ => exact none_some h
  | nil =>
  have h0 : (castDm (.pair (.sl 2 (.int .i64)) (.pair (.int .i64) (.pair (.int .i64) .unit))) .imm d0 fun x0 => castDm (.int .i64) .imm d1 fun x1 => bindO (spec_l03Spot N x0 x1) fun r => k [⟨(.pair (.int .i64) (.pair (.int .i64) .unit)), .imm, r⟩] []) = some y := h
  clear h
  obtain ⟨x0, rfl, h1⟩ := castDm_eq h0
  obtain ⟨x1, rfl, h2⟩ := castDm_eq h1
  exact con_fin (spec_l03Spot.b N x0 x1) h2
theorem spec_l03Spot.det (N : Nat) : ConDet (spec_l03Spot.con N) := by
  intro ds R k y h
  cases ds with
  | nil => exact none_some h
  | cons d0 ds =>
  cases ds with
  | nil => exact none_some h
  | cons d1 ds =>
  cases ds with
  | cons _ _ => exact none_some h
  | nil =>
  have h0 : (castDm (.pair (.sl 2 (.int .i64)) (.pair (.int .i64) (.pair (.int .i64) .unit))) .imm d0 fun x0 => castDm (.int .i64) .imm d1 fun x1 => bindO (spec_l03Spot N x0 x1) fun r => k [⟨(.pair (.int .i64) (.pair (.int .i64) .unit)), .imm, r⟩] []) = some y := h
  clear h
  obtain ⟨x0, rfl, h1⟩ := castDm_eq h0
  obtain ⟨x1, rfl, h2⟩ := castDm_eq h1
  obtain ⟨r, e, h⟩ := bindO_some h2
  refine ⟨_, _, h, fun k' => ?_⟩
  show (castDm (.pair (.sl 2 (.int .i64)) (.pair (.int .i64) (.pair (.int .i64) .unit))) .imm (⟨(.pair (.sl 2 (.int .i64)) (.pair (.int .i64) (.pair (.int .i64) .unit))), .imm, x0⟩ : Dy) fun x0 => castDm (.int .i64) .imm (⟨(.int .i64), .imm, x1⟩ : Dy) fun x1 => bindO (spec_l03Spot N x0 x1) fun r => k' [⟨(.pair (.int .i64) (.pair (.int .i64) .unit)), .imm, r⟩] []) = _
  simp only [castDm_self]
  rw [e]
  rfl
noncomputable def spec_LineCount.con (N : Nat) : Con := { modes := [.v], ptrs := [false], fn := fun ds k => match ds with | [d0] => castDm (.pair (.sl 2 (.int .i64)) (.pair (.int .i64) (.pair (.int .i64) .unit))) .imm d0 fun x0 => bindO (spec_LineCount N x0) fun r => k [⟨(.int .i64), .imm, r⟩] [] | _ => none }
noncomputable def spec_LineCount.cfg (N : Nat) : Cfg := { ty := tys, keep := [4, 10], flt := [], elm := [(22, (.own .imm)), (23, (.own .imm)), (24, (.pr (.own .imm) .imm)), (25, (.pr (.own .imm) .imm)), (54, (.pr (.own .imm) .imm)), (55, (.pr (.own .imm) .imm))], live := [], ord := [], con := [((11, [.one]), spec_BufRight.con N), ((12, [.one, .one]), spec_l03Spot.con N)], loops := [], joins := [] }
theorem spec_LineCount.cons (N : Nat) : ConsOk Try.prog (spec_LineCount.cfg N).con := (consOk_cons (hb11) (spec_BufRight.ok N) (spec_BufRight.det N) (consOk_cons (hb12) (spec_l03Spot.ok N) (spec_l03Spot.det N) consOk_nil))
theorem spec_LineCount.ls (N : Nat) : LoopsOk Try.prog (spec_LineCount.cfg N) (fnBody Try.f29) := loopsL (l := []) (by kernel_rfl) trivial
theorem spec_LineCount.b (N : Nat) (x0 : den (.pair (.sl 2 (.int .i64)) (.pair (.int .i64) (.pair (.int .i64) .unit)))) : body (spec_LineCount.cfg N) N Try.f29 [.one] [.v] [(false, .imm)] [⟨(.pair (.sl 2 (.int .i64)) (.pair (.int .i64) (.pair (.int .i64) .unit))), .imm, x0⟩] (fun r i => some (r, i)) = bindO (spec_LineCount N x0) fun r => some ([⟨(.int .i64), .imm, r⟩], []) := by
  show _ = bindF _ _
  conv => rhs; simp only [spec_LineCount, bindF_ifB, bindF_bindO, bindF_pure, bindF_none, bindF_onSum]
  kernel_rfl
theorem spec_LineCount.ok (N : Nat) : ConOk Try.prog 29 [.one] (spec_LineCount.con N) := by
  refine conOk_mk (g := spec_LineCount.cfg N) (N := N) (res := [(false, .imm)]) tys_ok (spec_LineCount.cons N) mixed Try.func29 (spec_LineCount.ls N) rfl rfl ?_
  intro ds R k y h
  cases ds with
  | nil => exact none_some h
  | cons d0 ds =>
  cases ds with
  | cons _ _ => exact none_some h
  | nil =>
  have h0 : (castDm (.pair (.sl 2 (.int .i64)) (.pair (.int .i64) (.pair (.int .i64) .unit))) .imm d0 fun x0 => bindO (spec_LineCount N x0) fun r => k [⟨(.int .i64), .imm, r⟩] []) = some y := h
  clear h
  obtain ⟨x0, rfl, h1⟩ := castDm_eq h0
  exact con_fin (spec_LineCount.b N x0) h1
theorem spec_LineCount.det (N : Nat) : ConDet (spec_LineCount.con N) := by
  intro ds R k y h
  cases ds with
  | nil => exact none_some h
  | cons d0 ds =>
  cases ds with
  | cons _ _ => exact none_some h
  | nil =>
  have h0 : (castDm (.pair (.sl 2 (.int .i64)) (.pair (.int .i64) (.pair (.int .i64) .unit))) .imm d0 fun x0 => bindO (spec_LineCount N x0) fun r => k [⟨(.int .i64), .imm, r⟩] []) = some y := h
  clear h
  obtain ⟨x0, rfl, h1⟩ := castDm_eq h0
  obtain ⟨r, e, h⟩ := bindO_some h1
  refine ⟨_, _, h, fun k' => ?_⟩
  show (castDm (.pair (.sl 2 (.int .i64)) (.pair (.int .i64) (.pair (.int .i64) .unit))) .imm (⟨(.pair (.sl 2 (.int .i64)) (.pair (.int .i64) (.pair (.int .i64) .unit))), .imm, x0⟩ : Dy) fun x0 => bindO (spec_LineCount N x0) fun r => k' [⟨(.int .i64), .imm, r⟩] []) = _
  simp only [castDm_self]
  rw [e]
  rfl
noncomputable def spec_l01Min.con (N : Nat) : Con := { modes := [.v, .v], ptrs := [false], fn := fun ds k => match ds with | [d0, d1] => castDm (.int .i64) .imm d0 fun x0 => castDm (.int .i64) .imm d1 fun x1 => bindO (spec_l01Min N x0 x1) fun r => k [⟨(.int .i64), .imm, r⟩] [] | _ => none }
noncomputable def spec_l01Min.cfg (N : Nat) : Cfg := { ty := tys, keep := [], flt := [], elm := [(22, (.own .imm)), (23, (.own .imm)), (24, (.pr (.own .imm) .imm)), (25, (.pr (.own .imm) .imm)), (54, (.pr (.own .imm) .imm)), (55, (.pr (.own .imm) .imm))], live := [], ord := [], con := [], loops := [], joins := [] }
theorem spec_l01Min.cons (N : Nat) : ConsOk Try.prog (spec_l01Min.cfg N).con := consOk_nil
theorem spec_l01Min.ls (N : Nat) : LoopsOk Try.prog (spec_l01Min.cfg N) (fnBody Try.f28) := loopsL (l := []) (by kernel_rfl) trivial
theorem spec_l01Min.b (N : Nat) (x0 : den (.int .i64)) (x1 : den (.int .i64)) : body (spec_l01Min.cfg N) N Try.f28 [.one, .one] [.v, .v] [(false, .imm)] [⟨(.int .i64), .imm, x0⟩, ⟨(.int .i64), .imm, x1⟩] (fun r i => some (r, i)) = bindO (spec_l01Min N x0 x1) fun r => some ([⟨(.int .i64), .imm, r⟩], []) := by
  show _ = bindF _ _
  conv => rhs; simp only [spec_l01Min, bindF_ifB, bindF_bindO, bindF_pure, bindF_none, bindF_onSum]
  kernel_rfl
theorem spec_l01Min.ok (N : Nat) : ConOk Try.prog 28 [.one, .one] (spec_l01Min.con N) := by
  refine conOk_mk (g := spec_l01Min.cfg N) (N := N) (res := [(false, .imm)]) tys_ok (spec_l01Min.cons N) mixed Try.func28 (spec_l01Min.ls N) rfl rfl ?_
  intro ds R k y h
  cases ds with
  | nil => exact none_some h
  | cons d0 ds =>
  cases ds with
  | nil => exact none_some h
  | cons d1 ds =>
  cases ds with
  | cons _ _ => exact none_some h
  | nil =>
  have h0 : (castDm (.int .i64) .imm d0 fun x0 => castDm (.int .i64) .imm d1 fun x1 => bindO (spec_l01Min N x0 x1) fun r => k [⟨(.int .i64), .imm, r⟩] []) = some y := h
  clear h
  obtain ⟨x0, rfl, h1⟩ := castDm_eq h0
  obtain ⟨x1, rfl, h2⟩ := castDm_eq h1
  exact con_fin (spec_l01Min.b N x0 x1) h2
theorem spec_l01Min.det (N : Nat) : ConDet (spec_l01Min.con N) := by
  intro ds R k y h
  cases ds with
  | nil => exact none_some h
  | cons d0 ds =>
  cases ds with
  | nil => exact none_some h
  | cons d1 ds =>
  cases ds with
  | cons _ _ => exact none_some h
  | nil =>
  have h0 : (castDm (.int .i64) .imm d0 fun x0 => castDm (.int .i64) .imm d1 fun x1 => bindO (spec_l01Min N x0 x1) fun r => k [⟨(.int .i64), .imm, r⟩] []) = some y := h
  clear h
  obtain ⟨x0, rfl, h1⟩ := castDm_eq h0
  obtain ⟨x1, rfl, h2⟩ := castDm_eq h1
  obtain ⟨r, e, h⟩ := bindO_some h2
  refine ⟨_, _, h, fun k' => ?_⟩
  show (castDm (.int .i64) .imm (⟨(.int .i64), .imm, x0⟩ : Dy) fun x0 => castDm (.int .i64) .imm (⟨(.int .i64), .imm, x1⟩ : Dy) fun x1 => bindO (spec_l01Min N x0 x1) fun r => k' [⟨(.int .i64), .imm, r⟩] []) = _
  simp only [castDm_self]
  rw [e]
  rfl
noncomputable def spec_l01Max.con (N : Nat) : Con := { modes := [.v, .v], ptrs := [false], fn := fun ds k => match ds with | [d0, d1] => castDm (.int .i64) .imm d0 fun x0 => castDm (.int .i64) .imm d1 fun x1 => bindO (spec_l01Max N x0 x1) fun r => k [⟨(.int .i64), .imm, r⟩] [] | _ => none }
noncomputable def spec_l01Max.cfg (N : Nat) : Cfg := { ty := tys, keep := [], flt := [], elm := [(22, (.own .imm)), (23, (.own .imm)), (24, (.pr (.own .imm) .imm)), (25, (.pr (.own .imm) .imm)), (54, (.pr (.own .imm) .imm)), (55, (.pr (.own .imm) .imm))], live := [], ord := [], con := [], loops := [], joins := [] }
theorem spec_l01Max.cons (N : Nat) : ConsOk Try.prog (spec_l01Max.cfg N).con := consOk_nil
theorem spec_l01Max.ls (N : Nat) : LoopsOk Try.prog (spec_l01Max.cfg N) (fnBody Try.f27) := loopsL (l := []) (by kernel_rfl) trivial
theorem spec_l01Max.b (N : Nat) (x0 : den (.int .i64)) (x1 : den (.int .i64)) : body (spec_l01Max.cfg N) N Try.f27 [.one, .one] [.v, .v] [(false, .imm)] [⟨(.int .i64), .imm, x0⟩, ⟨(.int .i64), .imm, x1⟩] (fun r i => some (r, i)) = bindO (spec_l01Max N x0 x1) fun r => some ([⟨(.int .i64), .imm, r⟩], []) := by
  show _ = bindF _ _
  conv => rhs; simp only [spec_l01Max, bindF_ifB, bindF_bindO, bindF_pure, bindF_none, bindF_onSum]
  kernel_rfl
theorem spec_l01Max.ok (N : Nat) : ConOk Try.prog 27 [.one, .one] (spec_l01Max.con N) := by
  refine conOk_mk (g := spec_l01Max.cfg N) (N := N) (res := [(false, .imm)]) tys_ok (spec_l01Max.cons N) mixed Try.func27 (spec_l01Max.ls N) rfl rfl ?_
  intro ds R k y h
  cases ds with
  | nil => exact none_some h
  | cons d0 ds =>
  cases ds with
  | nil => exact none_some h
  | cons d1 ds =>
  cases ds with
  | cons _ _ => exact none_some h
  | nil =>
  have h0 : (castDm (.int .i64) .imm d0 fun x0 => castDm (.int .i64) .imm d1 fun x1 => bindO (spec_l01Max N x0 x1) fun r => k [⟨(.int .i64), .imm, r⟩] []) = some y := h
  clear h
  obtain ⟨x0, rfl, h1⟩ := castDm_eq h0
  obtain ⟨x1, rfl, h2⟩ := castDm_eq h1
  exact con_fin (spec_l01Max.b N x0 x1) h2
theorem spec_l01Max.det (N : Nat) : ConDet (spec_l01Max.con N) := by
  intro ds R k y h
  cases ds with
  | nil => exact none_some h
  | cons d0 ds =>
  cases ds with
  | nil => exact none_some h
  | cons d1 ds =>
  cases ds with
  | cons _ _ => exact none_some h
  | nil =>
  have h0 : (castDm (.int .i64) .imm d0 fun x0 => castDm (.int .i64) .imm d1 fun x1 => bindO (spec_l01Max N x0 x1) fun r => k [⟨(.int .i64), .imm, r⟩] []) = some y := h
  clear h
  obtain ⟨x0, rfl, h1⟩ := castDm_eq h0
  obtain ⟨x1, rfl, h2⟩ := castDm_eq h1
  obtain ⟨r, e, h⟩ := bindO_some h2
  refine ⟨_, _, h, fun k' => ?_⟩
  show (castDm (.int .i64) .imm (⟨(.int .i64), .imm, x0⟩ : Dy) fun x0 => castDm (.int .i64) .imm (⟨(.int .i64), .imm, x1⟩ : Dy) fun x1 => bindO (spec_l01Max N x0 x1) fun r => k' [⟨(.int .i64), .imm, r⟩] []) = _
  simp only [castDm_self]
  rw [e]
  rfl
def spec_l03End.sk1 : Skel := ⟨[.dead, .pv (.int .i64), .ptr 50 [], .dead, .dead, .dead, .dead, .dead, .dead, .dead, .dead, .dead, .dead, .dead, .dead, .dead, .dead, .dead, .dead, .dead, .dead], [⟨50, (.pair (.sl 2 (.int .i64)) (.pair (.int .i64) (.pair (.int .i64) .unit))), .imm, true, false⟩]⟩
def spec_l03End.xs1 : List XS := [⟨.exit 0, [1], ⟨[.dead, .pv (.int .i64), .dead, .dead, .dead, .dead, .dead, .dead, .dead, .dead, .dead, .dead, .dead, .dead, .dead, .dead, .dead, .dead, .dead, .dead, .dead], []⟩⟩]
noncomputable def spec_l03End.con (N : Nat) : Con := { modes := [.v, .v], ptrs := [false], fn := fun ds k => match ds with | [d0, d1] => castDm (.pair (.sl 2 (.int .i64)) (.pair (.int .i64) (.pair (.int .i64) .unit))) .imm d0 fun x0 => castDm (.int .i64) .imm d1 fun x1 => bindO (spec_l03End N x0 x1) fun r => k [⟨(.int .i64), .imm, r⟩] [] | _ => none }
noncomputable def spec_l03End.cfg (N : Nat) : Cfg := { ty := tys, keep := [], flt := [], elm := [(22, (.own .imm)), (23, (.own .imm)), (24, (.pr (.own .imm) .imm)), (25, (.pr (.own .imm) .imm)), (54, (.pr (.own .imm) .imm)), (55, (.pr (.own .imm) .imm))], live := [(1, [1, 2, 11, 12, 13, 14, 15, 16])], ord := [], con := [], loops := [(1, loopCon N spec_l03End.sk1 spec_l03End.xs1 (fun {R} => spec_l03End.l1 (R := R) N))], joins := [] }
theorem spec_l03End.cons (N : Nat) : ConsOk Try.prog (spec_l03End.cfg N).con := consOk_nil
theorem spec_l03End.h1 {R : Type} (N : Nat) (d : spec_l03End.sk1.D) (kn : spec_l03End.sk1.D → Option R) (kx : XD spec_l03End.xs1 → Option R) : roundK (spec_l03End.cfg N) N (nthLoop (fnBody Try.f30) 0) spec_l03End.sk1 spec_l03End.xs1 d kn kx = spec_l03End.l1 N d kn kx := by kernel_rfl
theorem spec_l03End.i1 (N : Nat) : LoopsOk Try.prog (spec_l03End.cfg N) (nthLoop (fnBody Try.f30) 0) := loopsL (l := []) (by kernel_rfl) trivial
theorem spec_l03End.o1 (N : Nat) : LoopOk Try.prog (nthLoop (fnBody Try.f30) 0) (loopCon N spec_l03End.sk1 spec_l03End.xs1 (fun {R} => spec_l03End.l1 (R := R) N)) := loop_ok (g := spec_l03End.cfg N) tys_ok (spec_l03End.cons N) mixed (spec_l03End.i1 N) (fun d kn kx => spec_l03End.h1 N d kn kx)
theorem spec_l03End.ls (N : Nat) : LoopsOk Try.prog (spec_l03End.cfg N) (fnBody Try.f30) := loopsL (l := [nthLoop (fnBody Try.f30) 0]) (by kernel_rfl) ⟨loopOne (L0 := loopCon N spec_l03End.sk1 spec_l03End.xs1 (fun {R} => spec_l03End.l1 (R := R) N)) (id := 1) (by kernel_rfl) (by kernel_rfl) (spec_l03End.o1 N), trivial⟩
theorem spec_l03End.q1 {R R' : Type} {N n : Nat} {d} {k} {g : R → Option R'} : bindF (loopP (spec_l03End.l1 N) n d k) g = loopP (spec_l03End.l1 N) n d fun e => bindF (k e) g := bindF_loopP (fun d kn kx => by simp only [spec_l03End.l1, bindF_ifB, bindF_bindO, bindF_pure, bindF_none, bindF_onSum]) n d k
theorem spec_l03End.b (N : Nat) (x0 : den (.pair (.sl 2 (.int .i64)) (.pair (.int .i64) (.pair (.int .i64) .unit)))) (x1 : den (.int .i64)) : body (spec_l03End.cfg N) N Try.f30 [.one, .one] [.v, .v] [(false, .imm)] [⟨(.pair (.sl 2 (.int .i64)) (.pair (.int .i64) (.pair (.int .i64) .unit))), .imm, x0⟩, ⟨(.int .i64), .imm, x1⟩] (fun r i => some (r, i)) = bindO (spec_l03End N x0 x1) fun r => some ([⟨(.int .i64), .imm, r⟩], []) := by
  show _ = bindF _ _
  conv => rhs; simp only [spec_l03End, bindF_ifB, bindF_bindO, bindF_pure, bindF_none, bindF_onSum, spec_l03End.q1]
  kernel_rfl
theorem spec_l03End.ok (N : Nat) : ConOk Try.prog 30 [.one, .one] (spec_l03End.con N) := by
  refine conOk_mk (g := spec_l03End.cfg N) (N := N) (res := [(false, .imm)]) tys_ok (spec_l03End.cons N) mixed Try.func30 (spec_l03End.ls N) rfl rfl ?_
  intro ds R k y h
  cases ds with
  | nil => exact none_some h
  | cons d0 ds =>
  cases ds with
  | nil => exact none_some h
  | cons d1 ds =>
  cases ds with
  | cons _ _ => exact none_some h
  | nil =>
  have h0 : (castDm (.pair (.sl 2 (.int .i64)) (.pair (.int .i64) (.pair (.int .i64) .unit))) .imm d0 fun x0 => castDm (.int .i64) .imm d1 fun x1 => bindO (spec_l03End N x0 x1) fun r => k [⟨(.int .i64), .imm, r⟩] []) = some y := h
  clear h
  obtain ⟨x0, rfl, h1⟩ := castDm_eq h0
  obtain ⟨x1, rfl, h2⟩ := castDm_eq h1
  exact con_fin (spec_l03End.b N x0 x1) h2
theorem spec_l03End.det (N : Nat) : ConDet (spec_l03End.con N) := by
  intro ds R k y h
  cases ds with
  | nil => exact none_some h
  | cons d0 ds =>
  cases ds with
  | nil => exact none_some h
  | cons d1 ds =>
  cases ds with
  | cons _ _ => exact none_some h
  | nil =>
  have h0 : (castDm (.pair (.sl 2 (.int .i64)) (.pair (.int .i64) (.pair (.int .i64) .unit))) .imm d0 fun x0 => castDm (.int .i64) .imm d1 fun x1 => bindO (spec_l03End N x0 x1) fun r => k [⟨(.int .i64), .imm, r⟩] []) = some y := h
  clear h
  obtain ⟨x0, rfl, h1⟩ := castDm_eq h0
  obtain ⟨x1, rfl, h2⟩ := castDm_eq h1
  obtain ⟨r, e, h⟩ := bindO_some h2
  refine ⟨_, _, h, fun k' => ?_⟩
  show (castDm (.pair (.sl 2 (.int .i64)) (.pair (.int .i64) (.pair (.int .i64) .unit))) .imm (⟨(.pair (.sl 2 (.int .i64)) (.pair (.int .i64) (.pair (.int .i64) .unit))), .imm, x0⟩ : Dy) fun x0 => castDm (.int .i64) .imm (⟨(.int .i64), .imm, x1⟩ : Dy) fun x1 => bindO (spec_l03End N x0 x1) fun r => k' [⟨(.int .i64), .imm, r⟩] []) = _
  simp only [castDm_self]
  rw [e]
  rfl
def spec_PlaceOf.sk5 : Skel := ⟨[.dead, .dead, .ptr 50 [], .ptr 51 [], .dead, .pv (.int .i64), .pv (.int .i64), .dead, .dead, .dead, .dead, .dead, .dead, .dead, .dead, .dead, .dead, .dead, .dead, .dead, .dead, .dead, .dead, .dead, .dead, .dead, .dead, .dead, .dead, .dead, .dead, .dead, .dead, .dead, .dead, .dead, .dead, .dead, .dead, .dead, .dead, .dead, .dead, .dead], [⟨50, (.pair (.sl 2 (.int .i64)) (.pair (.int .i64) (.pair (.int .i64) .unit))), .imm, true, false⟩, ⟨51, (.pair (.int .i64) (.pair (.int .i64) .unit)), .imm, true, false⟩]⟩
def spec_PlaceOf.xs5 : List XS := [⟨.exit 0, [2, 3, 6], ⟨[.dead, .dead, .ptr 50 [], .ptr 51 [], .dead, .dead, .pv (.int .i64), .dead, .dead, .dead, .dead, .dead, .dead, .dead, .dead, .dead, .dead, .dead, .dead, .dead, .dead, .dead, .dead, .dead, .dead, .dead, .dead, .dead, .dead, .dead, .dead, .dead, .dead, .dead, .dead, .dead, .dead, .dead, .dead, .dead, .dead, .dead, .dead, .dead], [⟨50, (.pair (.sl 2 (.int .i64)) (.pair (.int .i64) (.pair (.int .i64) .unit))), .imm, true, false⟩, ⟨51, (.pair (.int .i64) (.pair (.int .i64) .unit)), .imm, true, false⟩]⟩⟩]
noncomputable def spec_PlaceOf.con (N : Nat) : Con := { modes := [.v, .v], ptrs := [false], fn := fun ds k => match ds with | [d0, d1] => castDm (.pair (.sl 2 (.int .i64)) (.pair (.int .i64) (.pair (.int .i64) .unit))) .imm d0 fun x0 => castDm (.pair (.int .i64) (.pair (.int .i64) .unit)) .imm d1 fun x1 => bindO (spec_PlaceOf N x0 x1) fun r => k [⟨(.int .i64), .imm, r⟩] [] | _ => none }
noncomputable def spec_PlaceOf.cfg (N : Nat) : Cfg := { ty := tys, keep := [9, 14, 16, 17, 24, 28], flt := [], elm := [(22, (.own .imm)), (23, (.own .imm)), (24, (.pr (.own .imm) .imm)), (25, (.pr (.own .imm) .imm)), (54, (.pr (.own .imm) .imm)), (55, (.pr (.own .imm) .imm))], live := [(5, [2, 3, 5, 6])], ord := [(3, [0, 1, 2, 3, 4, 5, 6, 7])], con := [((11, [.one]), spec_BufRight.con N), ((29, [.one]), spec_LineCount.con N), ((28, [.one, .one]), spec_l01Min.con N), ((27, [.one, .one]), spec_l01Max.con N), ((30, [.one, .one]), spec_l03End.con N)], loops := [(5, loopCon N spec_PlaceOf.sk5 spec_PlaceOf.xs5 (fun {R} => spec_PlaceOf.l5 (R := R) N))], joins := [] }
theorem spec_PlaceOf.cons (N : Nat) : ConsOk Try.prog (spec_PlaceOf.cfg N).con := (consOk_cons (hb11) (spec_BufRight.ok N) (spec_BufRight.det N) (consOk_cons (hb29) (spec_LineCount.ok N) (spec_LineCount.det N) (consOk_cons (hb28) (spec_l01Min.ok N) (spec_l01Min.det N) (consOk_cons (hb27) (spec_l01Max.ok N) (spec_l01Max.det N) (consOk_cons (hb30) (spec_l03End.ok N) (spec_l03End.det N) consOk_nil)))))
theorem spec_PlaceOf.h5 {R : Type} (N : Nat) (d : spec_PlaceOf.sk5.D) (kn : spec_PlaceOf.sk5.D → Option R) (kx : XD spec_PlaceOf.xs5 → Option R) : roundK (spec_PlaceOf.cfg N) N (nthLoop (fnBody Try.f13) 0) spec_PlaceOf.sk5 spec_PlaceOf.xs5 d kn kx = spec_PlaceOf.l5 N d kn kx := by kernel_rfl
theorem spec_PlaceOf.i5 (N : Nat) : LoopsOk Try.prog (spec_PlaceOf.cfg N) (nthLoop (fnBody Try.f13) 0) := loopsL (l := []) (by kernel_rfl) trivial
theorem spec_PlaceOf.o5 (N : Nat) : LoopOk Try.prog (nthLoop (fnBody Try.f13) 0) (loopCon N spec_PlaceOf.sk5 spec_PlaceOf.xs5 (fun {R} => spec_PlaceOf.l5 (R := R) N)) := loop_ok (g := spec_PlaceOf.cfg N) tys_ok (spec_PlaceOf.cons N) mixed (spec_PlaceOf.i5 N) (fun d kn kx => spec_PlaceOf.h5 N d kn kx)
theorem spec_PlaceOf.ls (N : Nat) : LoopsOk Try.prog (spec_PlaceOf.cfg N) (fnBody Try.f13) := loopsL (l := [nthLoop (fnBody Try.f13) 0]) (by kernel_rfl) ⟨loopOne (L0 := loopCon N spec_PlaceOf.sk5 spec_PlaceOf.xs5 (fun {R} => spec_PlaceOf.l5 (R := R) N)) (id := 5) (by kernel_rfl) (by kernel_rfl) (spec_PlaceOf.o5 N), trivial⟩
theorem spec_PlaceOf.q5 {R R' : Type} {N n : Nat} {d} {k} {g : R → Option R'} : bindF (loopP (spec_PlaceOf.l5 N) n d k) g = loopP (spec_PlaceOf.l5 N) n d fun e => bindF (k e) g := bindF_loopP (fun d kn kx => by simp only [spec_PlaceOf.l5, bindF_ifB, bindF_bindO, bindF_pure, bindF_none, bindF_onSum]) n d k
theorem spec_PlaceOf.b (N : Nat) (x0 : den (.pair (.sl 2 (.int .i64)) (.pair (.int .i64) (.pair (.int .i64) .unit)))) (x1 : den (.pair (.int .i64) (.pair (.int .i64) .unit))) : body (spec_PlaceOf.cfg N) N Try.f13 [.one, .one] [.v, .v] [(false, .imm)] [⟨(.pair (.sl 2 (.int .i64)) (.pair (.int .i64) (.pair (.int .i64) .unit))), .imm, x0⟩, ⟨(.pair (.int .i64) (.pair (.int .i64) .unit)), .imm, x1⟩] (fun r i => some (r, i)) = bindO (spec_PlaceOf N x0 x1) fun r => some ([⟨(.int .i64), .imm, r⟩], []) := by
  show _ = bindF _ _
  conv => rhs; simp only [spec_PlaceOf, bindF_ifB, bindF_bindO, bindF_pure, bindF_none, bindF_onSum, spec_PlaceOf.q5]
  kernel_rfl
theorem spec_PlaceOf.ok (N : Nat) : ConOk Try.prog 13 [.one, .one] (spec_PlaceOf.con N) := by
  refine conOk_mk (g := spec_PlaceOf.cfg N) (N := N) (res := [(false, .imm)]) tys_ok (spec_PlaceOf.cons N) mixed Try.func13 (spec_PlaceOf.ls N) rfl rfl ?_
  intro ds R k y h
  cases ds with
  | nil => exact none_some h
  | cons d0 ds =>
  cases ds with
  | nil => exact none_some h
  | cons d1 ds =>
  cases ds with
  | cons _ _ => exact none_some h
  | nil =>
  have h0 : (castDm (.pair (.sl 2 (.int .i64)) (.pair (.int .i64) (.pair (.int .i64) .unit))) .imm d0 fun x0 => castDm (.pair (.int .i64) (.pair (.int .i64) .unit)) .imm d1 fun x1 => bindO (spec_PlaceOf N x0 x1) fun r => k [⟨(.int .i64), .imm, r⟩] []) = some y := h
  clear h
  obtain ⟨x0, rfl, h1⟩ := castDm_eq h0
  obtain ⟨x1, rfl, h2⟩ := castDm_eq h1
  exact con_fin (spec_PlaceOf.b N x0 x1) h2
theorem spec_PlaceOf.det (N : Nat) : ConDet (spec_PlaceOf.con N) := by
  intro ds R k y h
  cases ds with
  | nil => exact none_some h
  | cons d0 ds =>
  cases ds with
  | nil => exact none_some h
  | cons d1 ds =>
  cases ds with
  | cons _ _ => exact none_some h
  | nil =>
  have h0 : (castDm (.pair (.sl 2 (.int .i64)) (.pair (.int .i64) (.pair (.int .i64) .unit))) .imm d0 fun x0 => castDm (.pair (.int .i64) (.pair (.int .i64) .unit)) .imm d1 fun x1 => bindO (spec_PlaceOf N x0 x1) fun r => k [⟨(.int .i64), .imm, r⟩] []) = some y := h
  clear h
  obtain ⟨x0, rfl, h1⟩ := castDm_eq h0
  obtain ⟨x1, rfl, h2⟩ := castDm_eq h1
  obtain ⟨r, e, h⟩ := bindO_some h2
  refine ⟨_, _, h, fun k' => ?_⟩
  show (castDm (.pair (.sl 2 (.int .i64)) (.pair (.int .i64) (.pair (.int .i64) .unit))) .imm (⟨(.pair (.sl 2 (.int .i64)) (.pair (.int .i64) (.pair (.int .i64) .unit))), .imm, x0⟩ : Dy) fun x0 => castDm (.pair (.int .i64) (.pair (.int .i64) .unit)) .imm (⟨(.pair (.int .i64) (.pair (.int .i64) .unit)), .imm, x1⟩ : Dy) fun x1 => bindO (spec_PlaceOf N x0 x1) fun r => k' [⟨(.int .i64), .imm, r⟩] []) = _
  simp only [castDm_self]
  rw [e]
  rfl
noncomputable def spec_ClassOf.con (N : Nat) : Con := { modes := [.v], ptrs := [false], fn := fun ds k => match ds with | [d0] => castDm (.int .i64) .imm d0 fun x0 => bindO (spec_ClassOf N x0) fun r => k [⟨(.int .i64), .imm, r⟩] [] | _ => none }
noncomputable def spec_ClassOf.cfg (N : Nat) : Cfg := { ty := tys, keep := [4], flt := [], elm := [(22, (.own .imm)), (23, (.own .imm)), (24, (.pr (.own .imm) .imm)), (25, (.pr (.own .imm) .imm)), (54, (.pr (.own .imm) .imm)), (55, (.pr (.own .imm) .imm))], live := [], ord := [], con := [((37, [.one]), spec_l01Point.con N)], loops := [], joins := [] }
theorem spec_ClassOf.cons (N : Nat) : ConsOk Try.prog (spec_ClassOf.cfg N).con := (consOk_cons (hb37) (spec_l01Point.ok N) (spec_l01Point.det N) consOk_nil)
theorem spec_ClassOf.ls (N : Nat) : LoopsOk Try.prog (spec_ClassOf.cfg N) (fnBody Try.f31) := loopsL (l := []) (by kernel_rfl) trivial
theorem spec_ClassOf.b (N : Nat) (x0 : den (.int .i64)) : body (spec_ClassOf.cfg N) N Try.f31 [.one] [.v] [(false, .imm)] [⟨(.int .i64), .imm, x0⟩] (fun r i => some (r, i)) = bindO (spec_ClassOf N x0) fun r => some ([⟨(.int .i64), .imm, r⟩], []) := by
  show _ = bindF _ _
  conv => rhs; simp only [spec_ClassOf, bindF_ifB, bindF_bindO, bindF_pure, bindF_none, bindF_onSum]
  kernel_rfl
theorem spec_ClassOf.ok (N : Nat) : ConOk Try.prog 31 [.one] (spec_ClassOf.con N) := by
  refine conOk_mk (g := spec_ClassOf.cfg N) (N := N) (res := [(false, .imm)]) tys_ok (spec_ClassOf.cons N) mixed Try.func31 (spec_ClassOf.ls N) rfl rfl ?_
  intro ds R k y h
  cases ds with
  | nil => exact none_some h
  | cons d0 ds =>
  cases ds with
  | cons _ _ => exact none_some h
  | nil =>
  have h0 : (castDm (.int .i64) .imm d0 fun x0 => bindO (spec_ClassOf N x0) fun r => k [⟨(.int .i64), .imm, r⟩] []) = some y := h
  clear h
  obtain ⟨x0, rfl, h1⟩ := castDm_eq h0
  exact con_fin (spec_ClassOf.b N x0) h1
theorem spec_ClassOf.det (N : Nat) : ConDet (spec_ClassOf.con N) := by
  intro ds R k y h
  cases ds with
  | nil => exact none_some h
  | cons d0 ds =>
  cases ds with
  | cons _ _ => exact none_some h
  | nil =>
  have h0 : (castDm (.int .i64) .imm d0 fun x0 => bindO (spec_ClassOf N x0) fun r => k [⟨(.int .i64), .imm, r⟩] []) = some y := h
  clear h
  obtain ⟨x0, rfl, h1⟩ := castDm_eq h0
  obtain ⟨r, e, h⟩ := bindO_some h1
  refine ⟨_, _, h, fun k' => ?_⟩
  show (castDm (.int .i64) .imm (⟨(.int .i64), .imm, x0⟩ : Dy) fun x0 => bindO (spec_ClassOf N x0) fun r => k' [⟨(.int .i64), .imm, r⟩] []) = _
  simp only [castDm_self]
  rw [e]
  rfl
def spec_l03Step.sk8 : Skel := ⟨[.dead, .pv (.int .i64), .dead, .dead, .ptr 50 [], .dead, .dead, .dead, .dead, .dead, .dead, .dead, .dead, .dead, .dead, .dead, .dead, .dead, .dead, .dead, .dead, .dead, .dead, .dead, .dead, .dead, .dead, .dead, .dead, .dead, .dead, .dead, .dead, .dead, .dead, .dead, .dead, .dead, .dead, .dead, .dead, .dead, .dead, .dead, .dead, .dead, .dead, .dead, .dead, .dead, .dead, .dead, .dead, .dead, .dead, .dead, .dead, .dead, .dead, .dead, .dead, .dead, .dead, .dead, .dead, .dead, .dead, .dead, .dead, .dead, .dead, .dead, .dead, .dead, .dead, .dead, .dead, .dead, .dead, .dead, .dead, .dead, .dead, .dead, .dead, .dead, .dead, .dead, .dead, .dead, .dead, .dead, .dead, .dead, .dead, .dead, .dead, .dead, .dead, .dead, .dead, .dead, .dead, .dead, .dead, .dead, .dead, .dead, .dead, .dead, .dead, .dead, .dead, .dead, .dead, .dead, .dead, .dead, .dead], [⟨50, (.pair (.sl 2 (.int .i64)) (.pair (.int .i64) (.pair (.int .i64) .unit))), .imm, true, false⟩]⟩
def spec_l03Step.xs8 : List XS := [⟨.exit 1, [1, 4, 45, 46, 47, 48, 49, 50, 51, 52], ⟨[.dead, .pv (.int .i64), .dead, .dead, .ptr 50 [], .dead, .dead, .dead, .dead, .dead, .dead, .dead, .dead, .dead, .dead, .dead, .dead, .dead, .dead, .dead, .dead, .dead, .dead, .dead, .dead, .dead, .dead, .dead, .dead, .dead, .dead, .dead, .dead, .dead, .dead, .dead, .dead, .dead, .dead, .dead, .dead, .dead, .dead, .dead, .dead, .dead, .dead, .dead, .dead, .dead, .dead, .dead, .dead, .dead, .dead, .dead, .dead, .dead, .dead, .dead, .dead, .dead, .dead, .dead, .dead, .dead, .dead, .dead, .dead, .dead, .dead, .dead, .dead, .dead, .dead, .dead, .dead, .dead, .dead, .dead, .dead, .dead, .dead, .dead, .dead, .dead, .dead, .dead, .dead, .dead, .dead, .dead, .dead, .dead, .dead, .dead, .dead, .dead, .dead, .dead, .dead, .dead, .dead, .dead, .dead, .dead, .dead, .dead, .dead, .dead, .dead, .dead, .dead, .dead, .dead, .dead, .dead, .dead, .dead], [⟨50, (.pair (.sl 2 (.int .i64)) (.pair (.int .i64) (.pair (.int .i64) .unit))), .imm, true, false⟩]⟩⟩]
def spec_l03Step.sk10 : Skel := ⟨[.dead, .pv (.int .i64), .dead, .dead, .ptr 50 [], .dead, .dead, .dead, .dead, .dead, .dead, .dead, .dead, .dead, .dead, .dead, .dead, .dead, .dead, .dead, .dead, .dead, .dead, .dead, .dead, .dead, .dead, .dead, .dead, .dead, .dead, .dead, .dead, .dead, .dead, .dead, .dead, .dead, .dead, .dead, .dead, .dead, .dead, .dead, .dead, .dead, .dead, .dead, .dead, .dead, .dead, .dead, .dead, .dead, .dead, .dead, .dead, .dead, .dead, .dead, .dead, .dead, .dead, .dead, .dead, .dead, .dead, .dead, .dead, .dead, .dead, .dead, .dead, .dead, .dead, .dead, .dead, .dead, .dead, .dead, .dead, .dead, .dead, .dead, .dead, .dead, .dead, .dead, .dead, .dead, .dead, .dead, .dead, .dead, .dead, .dead, .dead, .dead, .dead, .dead, .dead, .dead, .dead, .dead, .dead, .dead, .dead, .dead, .dead, .dead, .dead, .dead, .dead, .dead, .dead, .dead, .dead, .dead, .dead], [⟨50, (.pair (.sl 2 (.int .i64)) (.pair (.int .i64) (.pair (.int .i64) .unit))), .imm, true, false⟩]⟩
def spec_l03Step.xs10 : List XS := [⟨.exit 3, [1], ⟨[.dead, .pv (.int .i64), .dead, .dead, .dead, .dead, .dead, .dead, .dead, .dead, .dead, .dead, .dead, .dead, .dead, .dead, .dead, .dead, .dead, .dead, .dead, .dead, .dead, .dead, .dead, .dead, .dead, .dead, .dead, .dead, .dead, .dead, .dead, .dead, .dead, .dead, .dead, .dead, .dead, .dead, .dead, .dead, .dead, .dead, .dead, .dead, .dead, .dead, .dead, .dead, .dead, .dead, .dead, .dead, .dead, .dead, .dead, .dead, .dead, .dead, .dead, .dead, .dead, .dead, .dead, .dead, .dead, .dead, .dead, .dead, .dead, .dead, .dead, .dead, .dead, .dead, .dead, .dead, .dead, .dead, .dead, .dead, .dead, .dead, .dead, .dead, .dead, .dead, .dead, .dead, .dead, .dead, .dead, .dead, .dead, .dead, .dead, .dead, .dead, .dead, .dead, .dead, .dead, .dead, .dead, .dead, .dead, .dead, .dead, .dead, .dead, .dead, .dead, .dead, .dead, .dead, .dead, .dead, .dead], []⟩⟩]
def spec_l03Step.sk14 : Skel := ⟨[.dead, .pv (.int .i64), .dead, .dead, .ptr 50 [], .dead, .dead, .dead, .dead, .pv (.int .i64), .dead, .dead, .dead, .dead, .dead, .dead, .dead, .dead, .dead, .dead, .dead, .dead, .dead, .dead, .dead, .dead, .dead, .dead, .dead, .dead, .dead, .dead, .dead, .dead, .dead, .dead, .dead, .dead, .dead, .dead, .dead, .dead, .dead, .dead, .dead, .dead, .dead, .dead, .dead, .dead, .dead, .dead, .dead, .dead, .dead, .dead, .dead, .dead, .dead, .dead, .dead, .dead, .dead, .dead, .dead, .dead, .dead, .dead, .dead, .dead, .dead, .dead, .dead, .dead, .dead, .dead, .dead, .dead, .dead, .dead, .dead, .dead, .dead, .dead, .dead, .dead, .dead, .dead, .dead, .dead, .dead, .dead, .dead, .dead, .dead, .dead, .dead, .dead, .dead, .dead, .dead, .dead, .dead, .dead, .dead, .dead, .dead, .dead, .dead, .dead, .dead, .dead, .dead, .dead, .dead, .dead, .dead, .dead, .dead], [⟨50, (.pair (.sl 2 (.int .i64)) (.pair (.int .i64) (.pair (.int .i64) .unit))), .imm, true, false⟩]⟩
def spec_l03Step.xs14 : List XS := [⟨.exit 5, [1, 4, 9, 77, 78, 79, 80, 81, 82, 83], ⟨[.dead, .pv (.int .i64), .dead, .dead, .ptr 50 [], .dead, .dead, .dead, .dead, .pv (.int .i64), .dead, .dead, .dead, .dead, .dead, .dead, .dead, .dead, .dead, .dead, .dead, .dead, .dead, .dead, .dead, .dead, .dead, .dead, .dead, .dead, .dead, .dead, .dead, .dead, .dead, .dead, .dead, .dead, .dead, .dead, .dead, .dead, .dead, .dead, .dead, .dead, .dead, .dead, .dead, .dead, .dead, .dead, .dead, .dead, .dead, .dead, .dead, .dead, .dead, .dead, .dead, .dead, .dead, .dead, .dead, .dead, .dead, .dead, .dead, .dead, .dead, .dead, .dead, .dead, .dead, .dead, .dead, .dead, .dead, .dead, .dead, .dead, .dead, .dead, .dead, .dead, .dead, .dead, .dead, .dead, .dead, .dead, .dead, .dead, .dead, .dead, .dead, .dead, .dead, .dead, .dead, .dead, .dead, .dead, .dead, .dead, .dead, .dead, .dead, .dead, .dead, .dead, .dead, .dead, .dead, .dead, .dead, .dead, .dead], [⟨50, (.pair (.sl 2 (.int .i64)) (.pair (.int .i64) (.pair (.int .i64) .unit))), .imm, true, false⟩]⟩⟩]
def spec_l03Step.sk16 : Skel := ⟨[.dead, .pv (.int .i64), .dead, .dead, .ptr 50 [], .dead, .dead, .dead, .dead, .pv (.int .i64), .dead, .dead, .dead, .dead, .dead, .dead, .dead, .dead, .dead, .dead, .dead, .dead, .dead, .dead, .dead, .dead, .dead, .dead, .dead, .dead, .dead, .dead, .dead, .dead, .dead, .dead, .dead, .dead, .dead, .dead, .dead, .dead, .dead, .dead, .dead, .dead, .dead, .dead, .dead, .dead, .dead, .dead, .dead, .dead, .dead, .dead, .dead, .dead, .dead, .dead, .dead, .dead, .dead, .dead, .dead, .dead, .dead, .dead, .dead, .dead, .dead, .dead, .dead, .dead, .dead, .dead, .dead, .dead, .dead, .dead, .dead, .dead, .dead, .dead, .dead, .dead, .dead, .dead, .dead, .dead, .dead, .dead, .dead, .dead, .dead, .dead, .dead, .dead, .dead, .dead, .dead, .dead, .dead, .dead, .dead, .dead, .dead, .dead, .dead, .dead, .dead, .dead, .dead, .dead, .dead, .dead, .dead, .dead, .dead], [⟨50, (.pair (.sl 2 (.int .i64)) (.pair (.int .i64) (.pair (.int .i64) .unit))), .imm, true, false⟩]⟩
def spec_l03Step.xs16 : List XS := [⟨.exit 7, [1], ⟨[.dead, .pv (.int .i64), .dead, .dead, .dead, .dead, .dead, .dead, .dead, .dead, .dead, .dead, .dead, .dead, .dead, .dead, .dead, .dead, .dead, .dead, .dead, .dead, .dead, .dead, .dead, .dead, .dead, .dead, .dead, .dead, .dead, .dead, .dead, .dead, .dead, .dead, .dead, .dead, .dead, .dead, .dead, .dead, .dead, .dead, .dead, .dead, .dead, .dead, .dead, .dead, .dead, .dead, .dead, .dead, .dead, .dead, .dead, .dead, .dead, .dead, .dead, .dead, .dead, .dead, .dead, .dead, .dead, .dead, .dead, .dead, .dead, .dead, .dead, .dead, .dead, .dead, .dead, .dead, .dead, .dead, .dead, .dead, .dead, .dead, .dead, .dead, .dead, .dead, .dead, .dead, .dead, .dead, .dead, .dead, .dead, .dead, .dead, .dead, .dead, .dead, .dead, .dead, .dead, .dead, .dead, .dead, .dead, .dead, .dead, .dead, .dead, .dead, .dead, .dead, .dead, .dead, .dead, .dead, .dead], []⟩⟩]
def spec_l03Step.sk28 : Skel := ⟨[.dead, .pv (.int .i64), .dead, .pv (.int .i64), .ptr 50 [], .dead, .dead, .dead, .dead, .pv (.int .i64), .pv (.int .i64), .dead, .dead, .dead, .dead, .dead, .dead, .dead, .dead, .dead, .dead, .dead, .dead, .dead, .dead, .dead, .dead, .dead, .dead, .dead, .dead, .dead, .dead, .dead, .dead, .dead, .dead, .dead, .dead, .dead, .dead, .dead, .dead, .dead, .dead, .dead, .dead, .dead, .dead, .dead, .dead, .dead, .dead, .dead, .dead, .dead, .dead, .dead, .dead, .dead, .dead, .dead, .dead, .dead, .dead, .dead, .dead, .dead, .dead, .dead, .dead, .dead, .dead, .dead, .dead, .dead, .dead, .dead, .dead, .dead, .dead, .dead, .dead, .dead, .dead, .dead, .dead, .dead, .dead, .dead, .dead, .dead, .dead, .dead, .dead, .dead, .dead, .dead, .dead, .dead, .dead, .dead, .dead, .dead, .dead, .dead, .dead, .dead, .dead, .dead, .dead, .dead, .dead, .dead, .dead, .dead, .dead, .dead, .dead], [⟨50, (.pair (.sl 2 (.int .i64)) (.pair (.int .i64) (.pair (.int .i64) .unit))), .imm, true, false⟩]⟩
def spec_l03Step.xs28 : List XS := [⟨.exit 9, [1], ⟨[.dead, .pv (.int .i64), .dead, .dead, .dead, .dead, .dead, .dead, .dead, .dead, .dead, .dead, .dead, .dead, .dead, .dead, .dead, .dead, .dead, .dead, .dead, .dead, .dead, .dead, .dead, .dead, .dead, .dead, .dead, .dead, .dead, .dead, .dead, .dead, .dead, .dead, .dead, .dead, .dead, .dead, .dead, .dead, .dead, .dead, .dead, .dead, .dead, .dead, .dead, .dead, .dead, .dead, .dead, .dead, .dead, .dead, .dead, .dead, .dead, .dead, .dead, .dead, .dead, .dead, .dead, .dead, .dead, .dead, .dead, .dead, .dead, .dead, .dead, .dead, .dead, .dead, .dead, .dead, .dead, .dead, .dead, .dead, .dead, .dead, .dead, .dead, .dead, .dead, .dead, .dead, .dead, .dead, .dead, .dead, .dead, .dead, .dead, .dead, .dead, .dead, .dead, .dead, .dead, .dead, .dead, .dead, .dead, .dead, .dead, .dead, .dead, .dead, .dead, .dead, .dead, .dead, .dead, .dead, .dead], []⟩⟩, ⟨.ret, [8], ⟨[.dead, .dead, .dead, .dead, .dead, .dead, .dead, .dead, .pv (.int .i64), .dead, .dead, .dead, .dead, .dead, .dead, .dead, .dead, .dead, .dead, .dead, .dead, .dead, .dead, .dead, .dead, .dead, .dead, .dead, .dead, .dead, .dead, .dead, .dead, .dead, .dead, .dead, .dead, .dead, .dead, .dead, .dead, .dead, .dead, .dead, .dead, .dead, .dead, .dead, .dead, .dead, .dead, .dead, .dead, .dead, .dead, .dead, .dead, .dead, .dead, .dead, .dead, .dead, .dead, .dead, .dead, .dead, .dead, .dead, .dead, .dead, .dead, .dead, .dead, .dead, .dead, .dead, .dead, .dead, .dead, .dead, .dead, .dead, .dead, .dead, .dead, .dead, .dead, .dead, .dead, .dead, .dead, .dead, .dead, .dead, .dead, .dead, .dead, .dead, .dead, .dead, .dead, .dead, .dead, .dead, .dead, .dead, .dead, .dead, .dead, .dead, .dead, .dead, .dead, .dead, .dead, .dead, .dead, .dead, .dead], []⟩⟩]
noncomputable def spec_l03Step.con (N : Nat) : Con := { modes := [.v, .v, .v, .v], ptrs := [false], fn := fun ds k => match ds with | [d0, d1, d2, d3] => castDm (.pair (.sl 2 (.int .i64)) (.pair (.int .i64) (.pair (.int .i64) .unit))) .imm d0 fun x0 => castDm (.int .i64) .imm d1 fun x1 => castDm (.int .i64) .imm d2 fun x2 => castDm (.int .i64) .imm d3 fun x3 => bindO (spec_l03Step N x0 x1 x2 x3) fun r => k [⟨(.int .i64), .imm, r⟩] [] | _ => none }
noncomputable def spec_l03Step.cfg (N : Nat) : Cfg := { ty := tys, keep := [19, 25, 37, 51, 68, 82, 92, 97], flt := [], elm := [(22, (.own .imm)), (23, (.own .imm)), (24, (.pr (.own .imm) .imm)), (25, (.pr (.own .imm) .imm)), (54, (.pr (.own .imm) .imm)), (55, (.pr (.own .imm) .imm))], live := [(28, [1, 3, 4, 9, 10]), (10, [1, 4, 45, 46, 47, 48, 49, 50, 51, 52]), (8, [1, 4, 31, 32, 33, 34, 35, 36, 37, 38, 45, 46, 47, 48, 49, 50, 51, 52]), (16, [1, 4, 9, 77, 78, 79, 80, 81, 82, 83]), (14, [1, 4, 9, 63, 64, 65, 66, 67, 68, 69, 77, 78, 79, 80, 81, 82, 83])], ord := [], con := [((27, [.one, .one]), spec_l01Max.con N), ((28, [.one, .one]), spec_l01Min.con N), ((31, [.one]), spec_ClassOf.con N), ((26, [.one, .one]), spec_l03Start.con N), ((30, [.one, .one]), spec_l03End.con N)], loops := [(8, loopCon N spec_l03Step.sk8 spec_l03Step.xs8 (fun {R} => spec_l03Step.l8 (R := R) N)), (10, loopCon N spec_l03Step.sk10 spec_l03Step.xs10 (fun {R} => spec_l03Step.l10 (R := R) N)), (14, loopCon N spec_l03Step.sk14 spec_l03Step.xs14 (fun {R} => spec_l03Step.l14 (R := R) N)), (16, loopCon N spec_l03Step.sk16 spec_l03Step.xs16 (fun {R} => spec_l03Step.l16 (R := R) N)), (28, loopCon N spec_l03Step.sk28 spec_l03Step.xs28 (fun {R} => spec_l03Step.l28 (R := R) N))], joins := [] }
theorem spec_l03Step.cons (N : Nat) : ConsOk Try.prog (spec_l03Step.cfg N).con := (consOk_cons (hb27) (spec_l01Max.ok N) (spec_l01Max.det N) (consOk_cons (hb28) (spec_l01Min.ok N) (spec_l01Min.det N) (consOk_cons (hb31) (spec_ClassOf.ok N) (spec_ClassOf.det N) (consOk_cons (hb26) (spec_l03Start.ok N) (spec_l03Start.det N) (consOk_cons (hb30) (spec_l03End.ok N) (spec_l03End.det N) consOk_nil)))))
theorem spec_l03Step.h28 {R : Type} (N : Nat) (d : spec_l03Step.sk28.D) (kn : spec_l03Step.sk28.D → Option R) (kx : XD spec_l03Step.xs28 → Option R) : roundK (spec_l03Step.cfg N) N (nthLoop (fnBody Try.f14) 4) spec_l03Step.sk28 spec_l03Step.xs28 d kn kx = spec_l03Step.l28 N d kn kx := by kernel_rfl
theorem spec_l03Step.i28 (N : Nat) : LoopsOk Try.prog (spec_l03Step.cfg N) (nthLoop (fnBody Try.f14) 4) := loopsL (l := []) (by kernel_rfl) trivial
theorem spec_l03Step.o28 (N : Nat) : LoopOk Try.prog (nthLoop (fnBody Try.f14) 4) (loopCon N spec_l03Step.sk28 spec_l03Step.xs28 (fun {R} => spec_l03Step.l28 (R := R) N)) := loop_ok (g := spec_l03Step.cfg N) tys_ok (spec_l03Step.cons N) mixed (spec_l03Step.i28 N) (fun d kn kx => spec_l03Step.h28 N d kn kx)
theorem spec_l03Step.h16 {R : Type} (N : Nat) (d : spec_l03Step.sk16.D) (kn : spec_l03Step.sk16.D → Option R) (kx : XD spec_l03Step.xs16 → Option R) : roundK (spec_l03Step.cfg N) N (nthLoop (fnBody Try.f14) 3) spec_l03Step.sk16 spec_l03Step.xs16 d kn kx = spec_l03Step.l16 N d kn kx := by kernel_rfl
theorem spec_l03Step.i16 (N : Nat) : LoopsOk Try.prog (spec_l03Step.cfg N) (nthLoop (fnBody Try.f14) 3) := loopsL (l := []) (by kernel_rfl) trivial
theorem spec_l03Step.o16 (N : Nat) : LoopOk Try.prog (nthLoop (fnBody Try.f14) 3) (loopCon N spec_l03Step.sk16 spec_l03Step.xs16 (fun {R} => spec_l03Step.l16 (R := R) N)) := loop_ok (g := spec_l03Step.cfg N) tys_ok (spec_l03Step.cons N) mixed (spec_l03Step.i16 N) (fun d kn kx => spec_l03Step.h16 N d kn kx)
theorem spec_l03Step.h14 {R : Type} (N : Nat) (d : spec_l03Step.sk14.D) (kn : spec_l03Step.sk14.D → Option R) (kx : XD spec_l03Step.xs14 → Option R) : roundK (spec_l03Step.cfg N) N (nthLoop (fnBody Try.f14) 2) spec_l03Step.sk14 spec_l03Step.xs14 d kn kx = spec_l03Step.l14 N d kn kx := by kernel_rfl
theorem spec_l03Step.i14 (N : Nat) : LoopsOk Try.prog (spec_l03Step.cfg N) (nthLoop (fnBody Try.f14) 2) := loopsL (l := []) (by kernel_rfl) trivial
theorem spec_l03Step.o14 (N : Nat) : LoopOk Try.prog (nthLoop (fnBody Try.f14) 2) (loopCon N spec_l03Step.sk14 spec_l03Step.xs14 (fun {R} => spec_l03Step.l14 (R := R) N)) := loop_ok (g := spec_l03Step.cfg N) tys_ok (spec_l03Step.cons N) mixed (spec_l03Step.i14 N) (fun d kn kx => spec_l03Step.h14 N d kn kx)
theorem spec_l03Step.h10 {R : Type} (N : Nat) (d : spec_l03Step.sk10.D) (kn : spec_l03Step.sk10.D → Option R) (kx : XD spec_l03Step.xs10 → Option R) : roundK (spec_l03Step.cfg N) N (nthLoop (fnBody Try.f14) 1) spec_l03Step.sk10 spec_l03Step.xs10 d kn kx = spec_l03Step.l10 N d kn kx := by kernel_rfl
theorem spec_l03Step.i10 (N : Nat) : LoopsOk Try.prog (spec_l03Step.cfg N) (nthLoop (fnBody Try.f14) 1) := loopsL (l := []) (by kernel_rfl) trivial
theorem spec_l03Step.o10 (N : Nat) : LoopOk Try.prog (nthLoop (fnBody Try.f14) 1) (loopCon N spec_l03Step.sk10 spec_l03Step.xs10 (fun {R} => spec_l03Step.l10 (R := R) N)) := loop_ok (g := spec_l03Step.cfg N) tys_ok (spec_l03Step.cons N) mixed (spec_l03Step.i10 N) (fun d kn kx => spec_l03Step.h10 N d kn kx)
theorem spec_l03Step.h8 {R : Type} (N : Nat) (d : spec_l03Step.sk8.D) (kn : spec_l03Step.sk8.D → Option R) (kx : XD spec_l03Step.xs8 → Option R) : roundK (spec_l03Step.cfg N) N (nthLoop (fnBody Try.f14) 0) spec_l03Step.sk8 spec_l03Step.xs8 d kn kx = spec_l03Step.l8 N d kn kx := by kernel_rfl
theorem spec_l03Step.i8 (N : Nat) : LoopsOk Try.prog (spec_l03Step.cfg N) (nthLoop (fnBody Try.f14) 0) := loopsL (l := []) (by kernel_rfl) trivial
theorem spec_l03Step.o8 (N : Nat) : LoopOk Try.prog (nthLoop (fnBody Try.f14) 0) (loopCon N spec_l03Step.sk8 spec_l03Step.xs8 (fun {R} => spec_l03Step.l8 (R := R) N)) := loop_ok (g := spec_l03Step.cfg N) tys_ok (spec_l03Step.cons N) mixed (spec_l03Step.i8 N) (fun d kn kx => spec_l03Step.h8 N d kn kx)
theorem spec_l03Step.ls (N : Nat) : LoopsOk Try.prog (spec_l03Step.cfg N) (fnBody Try.f14) := loopsL (l := [nthLoop (fnBody Try.f14) 0, nthLoop (fnBody Try.f14) 1, nthLoop (fnBody Try.f14) 2, nthLoop (fnBody Try.f14) 3, nthLoop (fnBody Try.f14) 4]) (by kernel_rfl) ⟨loopOne (L0 := loopCon N spec_l03Step.sk8 spec_l03Step.xs8 (fun {R} => spec_l03Step.l8 (R := R) N)) (id := 8) (by kernel_rfl) (by kernel_rfl) (spec_l03Step.o8 N), ⟨loopOne (L0 := loopCon N spec_l03Step.sk10 spec_l03Step.xs10 (fun {R} => spec_l03Step.l10 (R := R) N)) (id := 10) (by kernel_rfl) (by kernel_rfl) (spec_l03Step.o10 N), ⟨loopOne (L0 := loopCon N spec_l03Step.sk14 spec_l03Step.xs14 (fun {R} => spec_l03Step.l14 (R := R) N)) (id := 14) (by kernel_rfl) (by kernel_rfl) (spec_l03Step.o14 N), ⟨loopOne (L0 := loopCon N spec_l03Step.sk16 spec_l03Step.xs16 (fun {R} => spec_l03Step.l16 (R := R) N)) (id := 16) (by kernel_rfl) (by kernel_rfl) (spec_l03Step.o16 N), ⟨loopOne (L0 := loopCon N spec_l03Step.sk28 spec_l03Step.xs28 (fun {R} => spec_l03Step.l28 (R := R) N)) (id := 28) (by kernel_rfl) (by kernel_rfl) (spec_l03Step.o28 N), trivial⟩⟩⟩⟩⟩
theorem spec_l03Step.q28 {R R' : Type} {N n : Nat} {d} {k} {g : R → Option R'} : bindF (loopP (spec_l03Step.l28 N) n d k) g = loopP (spec_l03Step.l28 N) n d fun e => bindF (k e) g := bindF_loopP (fun d kn kx => by simp only [spec_l03Step.l28, bindF_ifB, bindF_bindO, bindF_pure, bindF_none, bindF_onSum]) n d k
theorem spec_l03Step.q16 {R R' : Type} {N n : Nat} {d} {k} {g : R → Option R'} : bindF (loopP (spec_l03Step.l16 N) n d k) g = loopP (spec_l03Step.l16 N) n d fun e => bindF (k e) g := bindF_loopP (fun d kn kx => by simp only [spec_l03Step.l16, bindF_ifB, bindF_bindO, bindF_pure, bindF_none, bindF_onSum]) n d k
theorem spec_l03Step.q14 {R R' : Type} {N n : Nat} {d} {k} {g : R → Option R'} : bindF (loopP (spec_l03Step.l14 N) n d k) g = loopP (spec_l03Step.l14 N) n d fun e => bindF (k e) g := bindF_loopP (fun d kn kx => by simp only [spec_l03Step.l14, bindF_ifB, bindF_bindO, bindF_pure, bindF_none, bindF_onSum]) n d k
theorem spec_l03Step.q10 {R R' : Type} {N n : Nat} {d} {k} {g : R → Option R'} : bindF (loopP (spec_l03Step.l10 N) n d k) g = loopP (spec_l03Step.l10 N) n d fun e => bindF (k e) g := bindF_loopP (fun d kn kx => by simp only [spec_l03Step.l10, bindF_ifB, bindF_bindO, bindF_pure, bindF_none, bindF_onSum]) n d k
theorem spec_l03Step.q8 {R R' : Type} {N n : Nat} {d} {k} {g : R → Option R'} : bindF (loopP (spec_l03Step.l8 N) n d k) g = loopP (spec_l03Step.l8 N) n d fun e => bindF (k e) g := bindF_loopP (fun d kn kx => by simp only [spec_l03Step.l8, bindF_ifB, bindF_bindO, bindF_pure, bindF_none, bindF_onSum]) n d k
theorem spec_l03Step.b (N : Nat) (x0 : den (.pair (.sl 2 (.int .i64)) (.pair (.int .i64) (.pair (.int .i64) .unit)))) (x1 : den (.int .i64)) (x2 : den (.int .i64)) (x3 : den (.int .i64)) : body (spec_l03Step.cfg N) N Try.f14 [.one, .one, .one, .one] [.v, .v, .v, .v] [(false, .imm)] [⟨(.pair (.sl 2 (.int .i64)) (.pair (.int .i64) (.pair (.int .i64) .unit))), .imm, x0⟩, ⟨(.int .i64), .imm, x1⟩, ⟨(.int .i64), .imm, x2⟩, ⟨(.int .i64), .imm, x3⟩] (fun r i => some (r, i)) = bindO (spec_l03Step N x0 x1 x2 x3) fun r => some ([⟨(.int .i64), .imm, r⟩], []) := by
  show _ = bindF _ _
  conv => rhs; simp only [spec_l03Step, bindF_ifB, bindF_bindO, bindF_pure, bindF_none, bindF_onSum, spec_l03Step.q8, spec_l03Step.q10, spec_l03Step.q14, spec_l03Step.q16, spec_l03Step.q28]
  kernel_rfl
theorem spec_l03Step.ok (N : Nat) : ConOk Try.prog 14 [.one, .one, .one, .one] (spec_l03Step.con N) := by
  refine conOk_mk (g := spec_l03Step.cfg N) (N := N) (res := [(false, .imm)]) tys_ok (spec_l03Step.cons N) mixed Try.func14 (spec_l03Step.ls N) rfl rfl ?_
  intro ds R k y h
  cases ds with
  | nil => exact none_some h
  | cons d0 ds =>
  cases ds with
  | nil => exact none_some h
  | cons d1 ds =>
  cases ds with
  | nil => exact none_some h
  | cons d2 ds =>
  cases ds with
  | nil => exact none_some h
  | cons d3 ds =>
  cases ds with
  | cons _ _ => exact none_some h
  | nil =>
  have h0 : (castDm (.pair (.sl 2 (.int .i64)) (.pair (.int .i64) (.pair (.int .i64) .unit))) .imm d0 fun x0 => castDm (.int .i64) .imm d1 fun x1 => castDm (.int .i64) .imm d2 fun x2 => castDm (.int .i64) .imm d3 fun x3 => bindO (spec_l03Step N x0 x1 x2 x3) fun r => k [⟨(.int .i64), .imm, r⟩] []) = some y := h
  clear h
  obtain ⟨x0, rfl, h1⟩ := castDm_eq h0
  obtain ⟨x1, rfl, h2⟩ := castDm_eq h1
  obtain ⟨x2, rfl, h3⟩ := castDm_eq h2
  obtain ⟨x3, rfl, h4⟩ := castDm_eq h3
  exact con_fin (spec_l03Step.b N x0 x1 x2 x3) h4
theorem spec_l03Step.det (N : Nat) : ConDet (spec_l03Step.con N) := by
  intro ds R k y h
  cases ds with
  | nil => exact none_some h
  | cons d0 ds =>
  cases ds with
  | nil => exact none_some h
  | cons d1 ds =>
  cases ds with
  | nil => exact none_some h
  | cons d2 ds =>
  cases ds with
  | nil => exact none_some h
  | cons d3 ds =>
  cases ds with
  | cons _ _ => exact none_some h
  | nil =>
  have h0 : (castDm (.pair (.sl 2 (.int .i64)) (.pair (.int .i64) (.pair (.int .i64) .unit))) .imm d0 fun x0 => castDm (.int .i64) .imm d1 fun x1 => castDm (.int .i64) .imm d2 fun x2 => castDm (.int .i64) .imm d3 fun x3 => bindO (spec_l03Step N x0 x1 x2 x3) fun r => k [⟨(.int .i64), .imm, r⟩] []) = some y := h
  clear h
  obtain ⟨x0, rfl, h1⟩ := castDm_eq h0
  obtain ⟨x1, rfl, h2⟩ := castDm_eq h1
  obtain ⟨x2, rfl, h3⟩ := castDm_eq h2
  obtain ⟨x3, rfl, h4⟩ := castDm_eq h3
  obtain ⟨r, e, h⟩ := bindO_some h4
  refine ⟨_, _, h, fun k' => ?_⟩
  show (castDm (.pair (.sl 2 (.int .i64)) (.pair (.int .i64) (.pair (.int .i64) .unit))) .imm (⟨(.pair (.sl 2 (.int .i64)) (.pair (.int .i64) (.pair (.int .i64) .unit))), .imm, x0⟩ : Dy) fun x0 => castDm (.int .i64) .imm (⟨(.int .i64), .imm, x1⟩ : Dy) fun x1 => castDm (.int .i64) .imm (⟨(.int .i64), .imm, x2⟩ : Dy) fun x2 => castDm (.int .i64) .imm (⟨(.int .i64), .imm, x3⟩ : Dy) fun x3 => bindO (spec_l03Step N x0 x1 x2 x3) fun r => k' [⟨(.int .i64), .imm, r⟩] []) = _
  simp only [castDm_self]
  rw [e]
  rfl
def spec_Motion.sk10 : Skel := ⟨[.dead, .pv (.int .i64), .pv (.int .i64), .pv (.int .i64), .ptr 50 [], .dead, .dead, .dead, .dead, .dead, .pv (.int .i64), .dead, .dead, .dead, .dead, .dead, .dead, .dead, .dead, .dead, .dead, .dead, .dead, .dead, .dead, .dead, .dead, .dead, .dead, .dead, .dead, .dead, .dead, .dead, .dead, .dead, .dead, .dead, .dead, .dead, .dead, .dead, .dead, .dead, .dead, .dead, .dead, .dead, .dead, .dead, .dead, .dead, .dead, .dead, .dead, .dead, .dead, .dead, .dead, .dead, .dead, .dead, .dead, .dead, .dead, .dead, .dead], [⟨50, (.pair (.sl 2 (.int .i64)) (.pair (.int .i64) (.pair (.int .i64) .unit))), .imm, true, false⟩]⟩
def spec_Motion.xs10 : List XS := [⟨.exit 0, [10], ⟨[.dead, .dead, .dead, .dead, .dead, .dead, .dead, .dead, .dead, .dead, .pv (.int .i64), .dead, .dead, .dead, .dead, .dead, .dead, .dead, .dead, .dead, .dead, .dead, .dead, .dead, .dead, .dead, .dead, .dead, .dead, .dead, .dead, .dead, .dead, .dead, .dead, .dead, .dead, .dead, .dead, .dead, .dead, .dead, .dead, .dead, .dead, .dead, .dead, .dead, .dead, .dead, .dead, .dead, .dead, .dead, .dead, .dead, .dead, .dead, .dead, .dead, .dead, .dead, .dead, .dead, .dead, .dead, .dead], []⟩⟩]
noncomputable def spec_Motion.con (N : Nat) : Con := { modes := [.v, .v, .v, .v], ptrs := [false], fn := fun ds k => match ds with | [d0, d1, d2, d3] => castDm (.pair (.sl 2 (.int .i64)) (.pair (.int .i64) (.pair (.int .i64) .unit))) .imm d0 fun x0 => castDm (.int .i64) .imm d1 fun x1 => castDm (.int .i64) .imm d2 fun x2 => castDm (.int .i64) .imm d3 fun x3 => bindO (spec_Motion N x0 x1 x2 x3) fun r => k [⟨(.int .i64), .imm, r⟩] [] | _ => none }
noncomputable def spec_Motion.cfg (N : Nat) : Cfg := { ty := tys, keep := [12, 39, 54, 65], flt := [], elm := [(22, (.own .imm)), (23, (.own .imm)), (24, (.pr (.own .imm) .imm)), (25, (.pr (.own .imm) .imm)), (54, (.pr (.own .imm) .imm)), (55, (.pr (.own .imm) .imm))], live := [(10, [1, 2, 3, 4, 10])], ord := [], con := [((11, [.one]), spec_BufRight.con N), ((12, [.one, .one]), spec_l03Spot.con N), ((13, [.one, .one]), spec_PlaceOf.con N), ((14, [.one, .one, .one, .one]), spec_l03Step.con N)], loops := [(10, loopCon N spec_Motion.sk10 spec_Motion.xs10 (fun {R} => spec_Motion.l10 (R := R) N))], joins := [] }
theorem spec_Motion.cons (N : Nat) : ConsOk Try.prog (spec_Motion.cfg N).con := (consOk_cons (hb11) (spec_BufRight.ok N) (spec_BufRight.det N) (consOk_cons (hb12) (spec_l03Spot.ok N) (spec_l03Spot.det N) (consOk_cons (hb13) (spec_PlaceOf.ok N) (spec_PlaceOf.det N) (consOk_cons (hb14) (spec_l03Step.ok N) (spec_l03Step.det N) consOk_nil))))
theorem spec_Motion.h10 {R : Type} (N : Nat) (d : spec_Motion.sk10.D) (kn : spec_Motion.sk10.D → Option R) (kx : XD spec_Motion.xs10 → Option R) : roundK (spec_Motion.cfg N) N (nthLoop (fnBody Try.f5) 0) spec_Motion.sk10 spec_Motion.xs10 d kn kx = spec_Motion.l10 N d kn kx := by kernel_rfl
theorem spec_Motion.i10 (N : Nat) : LoopsOk Try.prog (spec_Motion.cfg N) (nthLoop (fnBody Try.f5) 0) := loopsL (l := []) (by kernel_rfl) trivial
theorem spec_Motion.o10 (N : Nat) : LoopOk Try.prog (nthLoop (fnBody Try.f5) 0) (loopCon N spec_Motion.sk10 spec_Motion.xs10 (fun {R} => spec_Motion.l10 (R := R) N)) := loop_ok (g := spec_Motion.cfg N) tys_ok (spec_Motion.cons N) mixed (spec_Motion.i10 N) (fun d kn kx => spec_Motion.h10 N d kn kx)
theorem spec_Motion.ls (N : Nat) : LoopsOk Try.prog (spec_Motion.cfg N) (fnBody Try.f5) := loopsL (l := [nthLoop (fnBody Try.f5) 0]) (by kernel_rfl) ⟨loopOne (L0 := loopCon N spec_Motion.sk10 spec_Motion.xs10 (fun {R} => spec_Motion.l10 (R := R) N)) (id := 10) (by kernel_rfl) (by kernel_rfl) (spec_Motion.o10 N), trivial⟩
theorem spec_Motion.q10 {R R' : Type} {N n : Nat} {d} {k} {g : R → Option R'} : bindF (loopP (spec_Motion.l10 N) n d k) g = loopP (spec_Motion.l10 N) n d fun e => bindF (k e) g := bindF_loopP (fun d kn kx => by simp only [spec_Motion.l10, bindF_ifB, bindF_bindO, bindF_pure, bindF_none, bindF_onSum]) n d k
theorem spec_Motion.b (N : Nat) (x0 : den (.pair (.sl 2 (.int .i64)) (.pair (.int .i64) (.pair (.int .i64) .unit)))) (x1 : den (.int .i64)) (x2 : den (.int .i64)) (x3 : den (.int .i64)) : body (spec_Motion.cfg N) N Try.f5 [.one, .one, .one, .one] [.v, .v, .v, .v] [(false, .imm)] [⟨(.pair (.sl 2 (.int .i64)) (.pair (.int .i64) (.pair (.int .i64) .unit))), .imm, x0⟩, ⟨(.int .i64), .imm, x1⟩, ⟨(.int .i64), .imm, x2⟩, ⟨(.int .i64), .imm, x3⟩] (fun r i => some (r, i)) = bindO (spec_Motion N x0 x1 x2 x3) fun r => some ([⟨(.int .i64), .imm, r⟩], []) := by
  show _ = bindF _ _
  conv => rhs; simp only [spec_Motion, bindF_ifB, bindF_bindO, bindF_pure, bindF_none, bindF_onSum, spec_Motion.q10]
  kernel_rfl
theorem spec_Motion.ok (N : Nat) : ConOk Try.prog 5 [.one, .one, .one, .one] (spec_Motion.con N) := by
  refine conOk_mk (g := spec_Motion.cfg N) (N := N) (res := [(false, .imm)]) tys_ok (spec_Motion.cons N) mixed Try.func5 (spec_Motion.ls N) rfl rfl ?_
  intro ds R k y h
  cases ds with
  | nil => exact none_some h
  | cons d0 ds =>
  cases ds with
  | nil => exact none_some h
  | cons d1 ds =>
  cases ds with
  | nil => exact none_some h
  | cons d2 ds =>
  cases ds with
  | nil => exact none_some h
  | cons d3 ds =>
  cases ds with
  | cons _ _ => exact none_some h
  | nil =>
  have h0 : (castDm (.pair (.sl 2 (.int .i64)) (.pair (.int .i64) (.pair (.int .i64) .unit))) .imm d0 fun x0 => castDm (.int .i64) .imm d1 fun x1 => castDm (.int .i64) .imm d2 fun x2 => castDm (.int .i64) .imm d3 fun x3 => bindO (spec_Motion N x0 x1 x2 x3) fun r => k [⟨(.int .i64), .imm, r⟩] []) = some y := h
  clear h
  obtain ⟨x0, rfl, h1⟩ := castDm_eq h0
  obtain ⟨x1, rfl, h2⟩ := castDm_eq h1
  obtain ⟨x2, rfl, h3⟩ := castDm_eq h2
  obtain ⟨x3, rfl, h4⟩ := castDm_eq h3
  exact con_fin (spec_Motion.b N x0 x1 x2 x3) h4
theorem spec_Motion.det (N : Nat) : ConDet (spec_Motion.con N) := by
  intro ds R k y h
  cases ds with
  | nil => exact none_some h
  | cons d0 ds =>
  cases ds with
  | nil => exact none_some h
  | cons d1 ds =>
  cases ds with
  | nil => exact none_some h
  | cons d2 ds =>
  cases ds with
  | nil => exact none_some h
  | cons d3 ds =>
  cases ds with
  | cons _ _ => exact none_some h
  | nil =>
  have h0 : (castDm (.pair (.sl 2 (.int .i64)) (.pair (.int .i64) (.pair (.int .i64) .unit))) .imm d0 fun x0 => castDm (.int .i64) .imm d1 fun x1 => castDm (.int .i64) .imm d2 fun x2 => castDm (.int .i64) .imm d3 fun x3 => bindO (spec_Motion N x0 x1 x2 x3) fun r => k [⟨(.int .i64), .imm, r⟩] []) = some y := h
  clear h
  obtain ⟨x0, rfl, h1⟩ := castDm_eq h0
  obtain ⟨x1, rfl, h2⟩ := castDm_eq h1
  obtain ⟨x2, rfl, h3⟩ := castDm_eq h2
  obtain ⟨x3, rfl, h4⟩ := castDm_eq h3
  obtain ⟨r, e, h⟩ := bindO_some h4
  refine ⟨_, _, h, fun k' => ?_⟩
  show (castDm (.pair (.sl 2 (.int .i64)) (.pair (.int .i64) (.pair (.int .i64) .unit))) .imm (⟨(.pair (.sl 2 (.int .i64)) (.pair (.int .i64) (.pair (.int .i64) .unit))), .imm, x0⟩ : Dy) fun x0 => castDm (.int .i64) .imm (⟨(.int .i64), .imm, x1⟩ : Dy) fun x1 => castDm (.int .i64) .imm (⟨(.int .i64), .imm, x2⟩ : Dy) fun x2 => castDm (.int .i64) .imm (⟨(.int .i64), .imm, x3⟩ : Dy) fun x3 => bindO (spec_Motion N x0 x1 x2 x3) fun r => k' [⟨(.int .i64), .imm, r⟩] []) = _
  simp only [castDm_self]
  rw [e]
  rfl
noncomputable def impl_within.con (N : Nat) : Con := { modes := [.v, .v, .v], ptrs := [false], fn := fun ds k => match ds with | [d0, d1, d2] => castDm (.int .i64) .imm d0 fun x0 => castDm (.int .i64) .imm d1 fun x1 => castDm (.int .i64) .imm d2 fun x2 => bindO (impl_within N x0 x1 x2) fun r => k [⟨.bool, .imm, r⟩] [] | _ => none }
noncomputable def impl_within.cfg (N : Nat) : Cfg := { ty := tys, keep := [], flt := [], elm := [(22, (.own .imm)), (23, (.own .imm)), (24, (.pr (.own .imm) .imm)), (25, (.pr (.own .imm) .imm)), (54, (.pr (.own .imm) .imm)), (55, (.pr (.own .imm) .imm))], live := [], ord := [], con := [], loops := [], joins := [] }
theorem impl_within.cons (N : Nat) : ConsOk Try.prog (impl_within.cfg N).con := consOk_nil
theorem impl_within.ls (N : Nat) : LoopsOk Try.prog (impl_within.cfg N) (fnBody Try.f16) := loopsL (l := []) (by kernel_rfl) trivial
theorem impl_within.b (N : Nat) (x0 : den (.int .i64)) (x1 : den (.int .i64)) (x2 : den (.int .i64)) : body (impl_within.cfg N) N Try.f16 [.one, .one, .one] [.v, .v, .v] [(false, .imm)] [⟨(.int .i64), .imm, x0⟩, ⟨(.int .i64), .imm, x1⟩, ⟨(.int .i64), .imm, x2⟩] (fun r i => some (r, i)) = bindO (impl_within N x0 x1 x2) fun r => some ([⟨.bool, .imm, r⟩], []) := by
  show _ = bindF _ _
  conv => rhs; simp only [impl_within, bindF_ifB, bindF_bindO, bindF_pure, bindF_none, bindF_onSum]
  kernel_rfl
theorem impl_within.ok (N : Nat) : ConOk Try.prog 16 [.one, .one, .one] (impl_within.con N) := by
  refine conOk_mk (g := impl_within.cfg N) (N := N) (res := [(false, .imm)]) tys_ok (impl_within.cons N) mixed Try.func16 (impl_within.ls N) rfl rfl ?_
  intro ds R k y h
  cases ds with
  | nil => exact none_some h
  | cons d0 ds =>
  cases ds with
  | nil => exact none_some h
  | cons d1 ds =>
  cases ds with
  | nil => exact none_some h
  | cons d2 ds =>
  cases ds with
  | cons _ _ => exact none_some h
  | nil =>
  have h0 : (castDm (.int .i64) .imm d0 fun x0 => castDm (.int .i64) .imm d1 fun x1 => castDm (.int .i64) .imm d2 fun x2 => bindO (impl_within N x0 x1 x2) fun r => k [⟨.bool, .imm, r⟩] []) = some y := h
  clear h
  obtain ⟨x0, rfl, h1⟩ := castDm_eq h0
  obtain ⟨x1, rfl, h2⟩ := castDm_eq h1
  obtain ⟨x2, rfl, h3⟩ := castDm_eq h2
  exact con_fin (impl_within.b N x0 x1 x2) h3
theorem impl_within.det (N : Nat) : ConDet (impl_within.con N) := by
  intro ds R k y h
  cases ds with
  | nil => exact none_some h
  | cons d0 ds =>
  cases ds with
  | nil => exact none_some h
  | cons d1 ds =>
  cases ds with
  | nil => exact none_some h
  | cons d2 ds =>
  cases ds with
  | cons _ _ => exact none_some h
  | nil =>
  have h0 : (castDm (.int .i64) .imm d0 fun x0 => castDm (.int .i64) .imm d1 fun x1 => castDm (.int .i64) .imm d2 fun x2 => bindO (impl_within N x0 x1 x2) fun r => k [⟨.bool, .imm, r⟩] []) = some y := h
  clear h
  obtain ⟨x0, rfl, h1⟩ := castDm_eq h0
  obtain ⟨x1, rfl, h2⟩ := castDm_eq h1
  obtain ⟨x2, rfl, h3⟩ := castDm_eq h2
  obtain ⟨r, e, h⟩ := bindO_some h3
  refine ⟨_, _, h, fun k' => ?_⟩
  show (castDm (.int .i64) .imm (⟨(.int .i64), .imm, x0⟩ : Dy) fun x0 => castDm (.int .i64) .imm (⟨(.int .i64), .imm, x1⟩ : Dy) fun x1 => castDm (.int .i64) .imm (⟨(.int .i64), .imm, x2⟩ : Dy) fun x2 => bindO (impl_within N x0 x1 x2) fun r => k' [⟨.bool, .imm, r⟩] []) = _
  simp only [castDm_self]
  rw [e]
  rfl
noncomputable def impl_isPoint.con (N : Nat) : Con := { modes := [.v], ptrs := [false], fn := fun ds k => match ds with | [d0] => castDm (.int .i64) .imm d0 fun x0 => bindO (impl_isPoint N x0) fun r => k [⟨.bool, .imm, r⟩] [] | _ => none }
noncomputable def impl_isPoint.cfg (N : Nat) : Cfg := { ty := tys, keep := [4, 7], flt := [], elm := [(22, (.own .imm)), (23, (.own .imm)), (24, (.pr (.own .imm) .imm)), (25, (.pr (.own .imm) .imm)), (54, (.pr (.own .imm) .imm)), (55, (.pr (.own .imm) .imm))], live := [], ord := [], con := [((16, [.one, .one, .one]), impl_within.con N)], loops := [], joins := [] }
theorem impl_isPoint.cons (N : Nat) : ConsOk Try.prog (impl_isPoint.cfg N).con := (consOk_cons (hb16) (impl_within.ok N) (impl_within.det N) consOk_nil)
theorem impl_isPoint.ls (N : Nat) : LoopsOk Try.prog (impl_isPoint.cfg N) (fnBody Try.f40) := loopsL (l := []) (by kernel_rfl) trivial
theorem impl_isPoint.b (N : Nat) (x0 : den (.int .i64)) : body (impl_isPoint.cfg N) N Try.f40 [.one] [.v] [(false, .imm)] [⟨(.int .i64), .imm, x0⟩] (fun r i => some (r, i)) = bindO (impl_isPoint N x0) fun r => some ([⟨.bool, .imm, r⟩], []) := by
  show _ = bindF _ _
  conv => rhs; simp only [impl_isPoint, bindF_ifB, bindF_bindO, bindF_pure, bindF_none, bindF_onSum]
  kernel_rfl
theorem impl_isPoint.ok (N : Nat) : ConOk Try.prog 40 [.one] (impl_isPoint.con N) := by
  refine conOk_mk (g := impl_isPoint.cfg N) (N := N) (res := [(false, .imm)]) tys_ok (impl_isPoint.cons N) mixed Try.func40 (impl_isPoint.ls N) rfl rfl ?_
  intro ds R k y h
  cases ds with
  | nil => exact none_some h
  | cons d0 ds =>
  cases ds with
  | cons _ _ => exact none_some h
  | nil =>
  have h0 : (castDm (.int .i64) .imm d0 fun x0 => bindO (impl_isPoint N x0) fun r => k [⟨.bool, .imm, r⟩] []) = some y := h
  clear h
  obtain ⟨x0, rfl, h1⟩ := castDm_eq h0
  exact con_fin (impl_isPoint.b N x0) h1
theorem impl_isPoint.det (N : Nat) : ConDet (impl_isPoint.con N) := by
  intro ds R k y h
  cases ds with
  | nil => exact none_some h
  | cons d0 ds =>
  cases ds with
  | cons _ _ => exact none_some h
  | nil =>
  have h0 : (castDm (.int .i64) .imm d0 fun x0 => bindO (impl_isPoint N x0) fun r => k [⟨.bool, .imm, r⟩] []) = some y := h
  clear h
  obtain ⟨x0, rfl, h1⟩ := castDm_eq h0
  obtain ⟨r, e, h⟩ := bindO_some h1
  refine ⟨_, _, h, fun k' => ?_⟩
  show (castDm (.int .i64) .imm (⟨(.int .i64), .imm, x0⟩ : Dy) fun x0 => bindO (impl_isPoint N x0) fun r => k' [⟨.bool, .imm, r⟩] []) = _
  simp only [castDm_self]
  rw [e]
  rfl
end Go.AE.F
