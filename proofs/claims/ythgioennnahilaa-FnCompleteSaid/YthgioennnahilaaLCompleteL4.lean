/- The printed functions are what the program comes to: contracts. -/
import Derived.Test.YthgioennnahilaaLCompleteL3
namespace Go.AE.F
open Go.AE Go.Proofs
set_option maxRecDepth 100000
def spec_CompCommon.sk8 : Skel := ⟨[.pv (.sl 24 (.sl 2 (.int .i64))), .dead, .dead, .dead, .dead, .ov 50 [], .ov 51 [], .pv (.int .i64), .dead, .dead, .dead, .dead, .dead, .dead, .dead, .dead, .dead, .dead, .dead, .dead, .dead, .dead, .dead, .dead, .dead, .dead, .dead, .dead, .dead, .dead, .dead, .dead, .dead, .dead, .dead, .dead, .dead, .dead, .dead, .dead, .dead, .dead, .dead, .dead, .dead, .dead, .dead, .dead, .dead, .dead, .dead, .dead, .dead, .dead, .dead, .dead, .dead, .dead, .dead], [⟨50, (.sl 2 (.int .i64)), (.own .imm), false, false⟩, ⟨51, (.sl 2 (.int .i64)), (.own .imm), false, false⟩]⟩
def spec_CompCommon.xs8 : List XS := [⟨.exit 0, [6], ⟨[.dead, .dead, .dead, .dead, .dead, .dead, .ov 50 [], .dead, .dead, .dead, .dead, .dead, .dead, .dead, .dead, .dead, .dead, .dead, .dead, .dead, .dead, .dead, .dead, .dead, .dead, .dead, .dead, .dead, .dead, .dead, .dead, .dead, .dead, .dead, .dead, .dead, .dead, .dead, .dead, .dead, .dead, .dead, .dead, .dead, .dead, .dead, .dead, .dead, .dead, .dead, .dead, .dead, .dead, .dead, .dead, .dead, .dead, .dead, .dead], [⟨50, (.sl 2 (.int .i64)), (.own .imm), false, false⟩]⟩⟩]
def spec_CompCommon.sk10 : Skel := ⟨[.pv (.sl 24 (.sl 2 (.int .i64))), .dead, .dead, .dead, .dead, .ov 50 [], .ov 51 [], .pv (.int .i64), .dead, .dead, .dead, .dead, .dead, .dead, .dead, .dead, .dead, .dead, .dead, .dead, .dead, .dead, .dead, .dead, .dead, .dead, .dead, .dead, .dead, .dead, .dead, .dead, .dead, .dead, .dead, .dead, .dead, .dead, .dead, .dead, .dead, .dead, .dead, .dead, .dead, .dead, .dead, .dead, .dead, .dead, .dead, .dead, .dead, .dead, .dead, .dead, .dead, .dead, .dead], [⟨50, (.sl 2 (.int .i64)), (.own .imm), false, false⟩, ⟨51, (.sl 2 (.int .i64)), (.own .imm), false, false⟩]⟩
def spec_CompCommon.xs10 : List XS := [⟨.exit 2, [0, 5, 6, 7], ⟨[.pv (.sl 24 (.sl 2 (.int .i64))), .dead, .dead, .dead, .dead, .ov 50 [], .ov 51 [], .pv (.int .i64), .dead, .dead, .dead, .dead, .dead, .dead, .dead, .dead, .dead, .dead, .dead, .dead, .dead, .dead, .dead, .dead, .dead, .dead, .dead, .dead, .dead, .dead, .dead, .dead, .dead, .dead, .dead, .dead, .dead, .dead, .dead, .dead, .dead, .dead, .dead, .dead, .dead, .dead, .dead, .dead, .dead, .dead, .dead, .dead, .dead, .dead, .dead, .dead, .dead, .dead, .dead], [⟨50, (.sl 2 (.int .i64)), (.own .imm), false, false⟩, ⟨51, (.sl 2 (.int .i64)), (.own .imm), false, false⟩]⟩⟩]
noncomputable def spec_CompCommon.con (N : Nat) : Con := { modes := [.v, .v], ptrs := [false], fn := fun ds k => match ds with | [d0, d1] => castDm (.sl 24 (.sl 2 (.int .i64))) .imm d0 fun x0 => castDm (.sl 2 (.int .i64)) .imm d1 fun x1 => bindO (spec_CompCommon N x0 x1) fun r => k [⟨(.sl 2 (.int .i64)), (.own .imm), r⟩] [] | _ => none }
noncomputable def spec_CompCommon.cfg (N : Nat) : Cfg := { ty := tys, keep := [18, 24, 29, 36, 51], flt := [], elm := [(22, (.own .imm)), (23, (.own (.own .imm))), (24, (.own .imm)), (43, (.pr (.own .imm) .imm)), (44, (.pr (.own .imm) .imm)), (48, (.own .imm))], live := [(10, [0, 5, 6, 7]), (8, [0, 5, 6, 7])], ord := [], con := [((24, [.one]), spec_PointsRight.con N), ((11, [.one, .one]), spec_CompMatch.con N), ((25, [.one]), spec_l01Copy.con N), ((26, [.one, .one]), spec_l06Begins.con N)], loops := [(8, loopCon N spec_CompCommon.sk8 spec_CompCommon.xs8 (fun {R} => spec_CompCommon.l8 (R := R) N)), (10, loopCon N spec_CompCommon.sk10 spec_CompCommon.xs10 (fun {R} => spec_CompCommon.l10 (R := R) N))], joins := [] }
theorem spec_CompCommon.cons (N : Nat) : ConsOk Try.prog (spec_CompCommon.cfg N).con := (consOk_cons (hb24) (spec_PointsRight.ok N) (spec_PointsRight.det N) (consOk_cons (hb11) (spec_CompMatch.ok N) (spec_CompMatch.det N) (consOk_cons (hb25) (spec_l01Copy.ok N) (spec_l01Copy.det N) (consOk_cons (hb26) (spec_l06Begins.ok N) (spec_l06Begins.det N) consOk_nil))))
theorem spec_CompCommon.h10 {R : Type} (N : Nat) (d : spec_CompCommon.sk10.D) (kn : spec_CompCommon.sk10.D → Option R) (kx : XD spec_CompCommon.xs10 → Option R) : roundK (spec_CompCommon.cfg N) N (nthLoop (fnBody Try.f10) 1) spec_CompCommon.sk10 spec_CompCommon.xs10 d kn kx = spec_CompCommon.l10 N d kn kx := by kernel_rfl
theorem spec_CompCommon.i10 (N : Nat) : LoopsOk Try.prog (spec_CompCommon.cfg N) (nthLoop (fnBody Try.f10) 1) := loopsL (l := []) (by kernel_rfl) trivial
theorem spec_CompCommon.o10 (N : Nat) : LoopOk Try.prog (nthLoop (fnBody Try.f10) 1) (loopCon N spec_CompCommon.sk10 spec_CompCommon.xs10 (fun {R} => spec_CompCommon.l10 (R := R) N)) := loop_ok (g := spec_CompCommon.cfg N) tys_ok (spec_CompCommon.cons N) mixed (spec_CompCommon.i10 N) (fun d kn kx => spec_CompCommon.h10 N d kn kx)
theorem spec_CompCommon.h8 {R : Type} (N : Nat) (d : spec_CompCommon.sk8.D) (kn : spec_CompCommon.sk8.D → Option R) (kx : XD spec_CompCommon.xs8 → Option R) : roundK (spec_CompCommon.cfg N) N (nthLoop (fnBody Try.f10) 0) spec_CompCommon.sk8 spec_CompCommon.xs8 d kn kx = spec_CompCommon.l8 N d kn kx := by kernel_rfl
theorem spec_CompCommon.i8 (N : Nat) : LoopsOk Try.prog (spec_CompCommon.cfg N) (nthLoop (fnBody Try.f10) 0) := loopsL (l := [nthLoop (fnBody Try.f10) 1]) (by kernel_rfl) ⟨loopOne (L0 := loopCon N spec_CompCommon.sk10 spec_CompCommon.xs10 (fun {R} => spec_CompCommon.l10 (R := R) N)) (id := 10) (by kernel_rfl) (by kernel_rfl) (spec_CompCommon.o10 N), trivial⟩
theorem spec_CompCommon.o8 (N : Nat) : LoopOk Try.prog (nthLoop (fnBody Try.f10) 0) (loopCon N spec_CompCommon.sk8 spec_CompCommon.xs8 (fun {R} => spec_CompCommon.l8 (R := R) N)) := loop_ok (g := spec_CompCommon.cfg N) tys_ok (spec_CompCommon.cons N) mixed (spec_CompCommon.i8 N) (fun d kn kx => spec_CompCommon.h8 N d kn kx)
theorem spec_CompCommon.ls (N : Nat) : LoopsOk Try.prog (spec_CompCommon.cfg N) (fnBody Try.f10) := loopsL (l := [nthLoop (fnBody Try.f10) 0, nthLoop (fnBody Try.f10) 1]) (by kernel_rfl) ⟨loopOne (L0 := loopCon N spec_CompCommon.sk8 spec_CompCommon.xs8 (fun {R} => spec_CompCommon.l8 (R := R) N)) (id := 8) (by kernel_rfl) (by kernel_rfl) (spec_CompCommon.o8 N), ⟨loopOne (L0 := loopCon N spec_CompCommon.sk10 spec_CompCommon.xs10 (fun {R} => spec_CompCommon.l10 (R := R) N)) (id := 10) (by kernel_rfl) (by kernel_rfl) (spec_CompCommon.o10 N), trivial⟩⟩
theorem spec_CompCommon.q10 {R R' : Type} {N n : Nat} {d} {k} {g : R → Option R'} : bindF (loopP (spec_CompCommon.l10 N) n d k) g = loopP (spec_CompCommon.l10 N) n d fun e => bindF (k e) g := bindF_loopP (fun d kn kx => by simp only [spec_CompCommon.l10, bindF_ifB, bindF_bindO, bindF_pure, bindF_none, bindF_onSum]) n d k
theorem spec_CompCommon.q8 {R R' : Type} {N n : Nat} {d} {k} {g : R → Option R'} : bindF (loopP (spec_CompCommon.l8 N) n d k) g = loopP (spec_CompCommon.l8 N) n d fun e => bindF (k e) g := bindF_loopP (fun d kn kx => by simp only [spec_CompCommon.l8, bindF_ifB, bindF_bindO, bindF_pure, bindF_none, bindF_onSum, spec_CompCommon.q10]) n d k
theorem spec_CompCommon.b (N : Nat) (x0 : den (.sl 24 (.sl 2 (.int .i64)))) (x1 : den (.sl 2 (.int .i64))) : body (spec_CompCommon.cfg N) N Try.f10 [.one, .one] [.v, .v] [(false, (.own .imm))] [⟨(.sl 24 (.sl 2 (.int .i64))), .imm, x0⟩, ⟨(.sl 2 (.int .i64)), .imm, x1⟩] (fun r i => some (r, i)) = bindO (spec_CompCommon N x0 x1) fun r => some ([⟨(.sl 2 (.int .i64)), (.own .imm), r⟩], []) := by
  show _ = bindF _ _
  conv => rhs; simp only [spec_CompCommon, bindF_ifB, bindF_bindO, bindF_pure, bindF_none, bindF_onSum, spec_CompCommon.q8, spec_CompCommon.q10]
  kernel_rfl
theorem spec_CompCommon.ok (N : Nat) : ConOk Try.prog 10 [.one, .one] (spec_CompCommon.con N) := by
  refine conOk_mk (g := spec_CompCommon.cfg N) (N := N) (res := [(false, (.own .imm))]) tys_ok (spec_CompCommon.cons N) mixed Try.func10 (spec_CompCommon.ls N) rfl rfl ?_
  intro ds R k y h
  cases ds with
  | nil => exact none_some h
  | cons d0 ds =>
  cases ds with
  | nil => exact none_some h
  | cons d1 ds =>
  cases ds with
  | cons _ _ => exact none_some h
  | nil =>
  have h0 : (castDm (.sl 24 (.sl 2 (.int .i64))) .imm d0 fun x0 => castDm (.sl 2 (.int .i64)) .imm d1 fun x1 => bindO (spec_CompCommon N x0 x1) fun r => k [⟨(.sl 2 (.int .i64)), (.own .imm), r⟩] []) = some y := h
  clear h
  obtain ⟨x0, rfl, h1⟩ := castDm_eq h0
  obtain ⟨x1, rfl, h2⟩ := castDm_eq h1
  exact con_fin (spec_CompCommon.b N x0 x1) h2
theorem spec_CompCommon.det (N : Nat) : ConDet (spec_CompCommon.con N) := by
  intro ds R k y h
  cases ds with
  | nil => exact none_some h
  | cons d0 ds =>
  cases ds with
  | nil => exact none_some h
  | cons d1 ds =>
  cases ds with
  | cons _ _ => exact none_some h
  | nil =>
  have h0 : (castDm (.sl 24 (.sl 2 (.int .i64))) .imm d0 fun x0 => castDm (.sl 2 (.int .i64)) .imm d1 fun x1 => bindO (spec_CompCommon N x0 x1) fun r => k [⟨(.sl 2 (.int .i64)), (.own .imm), r⟩] []) = some y := h
  clear h
  obtain ⟨x0, rfl, h1⟩ := castDm_eq h0
  obtain ⟨x1, rfl, h2⟩ := castDm_eq h1
  obtain ⟨r, e, h⟩ := bindO_some h2
  refine ⟨_, _, h, fun k' => ?_⟩
  show (castDm (.sl 24 (.sl 2 (.int .i64))) .imm (⟨(.sl 24 (.sl 2 (.int .i64))), .imm, x0⟩ : Dy) fun x0 => castDm (.sl 2 (.int .i64)) .imm (⟨(.sl 2 (.int .i64)), .imm, x1⟩ : Dy) fun x1 => bindO (spec_CompCommon N x0 x1) fun r => k' [⟨(.sl 2 (.int .i64)), (.own .imm), r⟩] []) = _
  simp only [castDm_self]
  rw [e]
  rfl
def laws_lwSame.sk4 : Skel := ⟨[.pv (.sl 2 (.int .i64)), .pv (.sl 2 (.int .i64)), .dead, .dead, .dead, .pv (.int .i64), .dead, .dead, .dead, .dead, .dead, .dead, .dead, .dead, .dead, .dead, .dead, .dead, .dead, .dead, .dead, .dead, .dead, .dead, .dead, .dead], []⟩
def laws_lwSame.xs4 : List XS := [⟨.exit 0, [], ⟨[.dead, .dead, .dead, .dead, .dead, .dead, .dead, .dead, .dead, .dead, .dead, .dead, .dead, .dead, .dead, .dead, .dead, .dead, .dead, .dead, .dead, .dead, .dead, .dead, .dead, .dead], []⟩⟩, ⟨.ret, [4], ⟨[.dead, .dead, .dead, .dead, .pv .bool, .dead, .dead, .dead, .dead, .dead, .dead, .dead, .dead, .dead, .dead, .dead, .dead, .dead, .dead, .dead, .dead, .dead, .dead, .dead, .dead, .dead], []⟩⟩]
noncomputable def laws_lwSame.con (N : Nat) : Con := { modes := [.v, .v], ptrs := [false], fn := fun ds k => match ds with | [d0, d1] => castDm (.sl 2 (.int .i64)) .imm d0 fun x0 => castDm (.sl 2 (.int .i64)) .imm d1 fun x1 => bindO (laws_lwSame N x0 x1) fun r => k [⟨.bool, .imm, r⟩] [] | _ => none }
noncomputable def laws_lwSame.cfg (N : Nat) : Cfg := { ty := tys, keep := [], flt := [], elm := [(22, (.own .imm)), (23, (.own (.own .imm))), (24, (.own .imm)), (43, (.pr (.own .imm) .imm)), (44, (.pr (.own .imm) .imm)), (48, (.own .imm))], live := [(4, [0, 1, 5])], ord := [(6, [0, 1, 2, 3, 4, 5, 6, 7, 8])], con := [], loops := [(4, loopCon N laws_lwSame.sk4 laws_lwSame.xs4 (fun {R} => laws_lwSame.l4 (R := R) N))], joins := [] }
theorem laws_lwSame.cons (N : Nat) : ConsOk Try.prog (laws_lwSame.cfg N).con := consOk_nil
theorem laws_lwSame.h4 {R : Type} (N : Nat) (d : laws_lwSame.sk4.D) (kn : laws_lwSame.sk4.D → Option R) (kx : XD laws_lwSame.xs4 → Option R) : roundK (laws_lwSame.cfg N) N (nthLoop (fnBody Try.f9) 0) laws_lwSame.sk4 laws_lwSame.xs4 d kn kx = laws_lwSame.l4 N d kn kx := by kernel_rfl
theorem laws_lwSame.i4 (N : Nat) : LoopsOk Try.prog (laws_lwSame.cfg N) (nthLoop (fnBody Try.f9) 0) := loopsL (l := []) (by kernel_rfl) trivial
theorem laws_lwSame.o4 (N : Nat) : LoopOk Try.prog (nthLoop (fnBody Try.f9) 0) (loopCon N laws_lwSame.sk4 laws_lwSame.xs4 (fun {R} => laws_lwSame.l4 (R := R) N)) := loop_ok (g := laws_lwSame.cfg N) tys_ok (laws_lwSame.cons N) mixed (laws_lwSame.i4 N) (fun d kn kx => laws_lwSame.h4 N d kn kx)
theorem laws_lwSame.ls (N : Nat) : LoopsOk Try.prog (laws_lwSame.cfg N) (fnBody Try.f9) := loopsL (l := [nthLoop (fnBody Try.f9) 0]) (by kernel_rfl) ⟨loopOne (L0 := loopCon N laws_lwSame.sk4 laws_lwSame.xs4 (fun {R} => laws_lwSame.l4 (R := R) N)) (id := 4) (by kernel_rfl) (by kernel_rfl) (laws_lwSame.o4 N), trivial⟩
theorem laws_lwSame.q4 {R R' : Type} {N n : Nat} {d} {k} {g : R → Option R'} : bindF (loopP (laws_lwSame.l4 N) n d k) g = loopP (laws_lwSame.l4 N) n d fun e => bindF (k e) g := bindF_loopP (fun d kn kx => by simp only [laws_lwSame.l4, bindF_ifB, bindF_bindO, bindF_pure, bindF_none, bindF_onSum]) n d k
theorem laws_lwSame.b (N : Nat) (x0 : den (.sl 2 (.int .i64))) (x1 : den (.sl 2 (.int .i64))) : body (laws_lwSame.cfg N) N Try.f9 [.one, .one] [.v, .v] [(false, .imm)] [⟨(.sl 2 (.int .i64)), .imm, x0⟩, ⟨(.sl 2 (.int .i64)), .imm, x1⟩] (fun r i => some (r, i)) = bindO (laws_lwSame N x0 x1) fun r => some ([⟨.bool, .imm, r⟩], []) := by
  show _ = bindF _ _
  conv => rhs; simp only [laws_lwSame, bindF_ifB, bindF_bindO, bindF_pure, bindF_none, bindF_onSum, laws_lwSame.q4]
  kernel_rfl
theorem laws_lwSame.ok (N : Nat) : ConOk Try.prog 9 [.one, .one] (laws_lwSame.con N) := by
  refine conOk_mk (g := laws_lwSame.cfg N) (N := N) (res := [(false, .imm)]) tys_ok (laws_lwSame.cons N) mixed Try.func9 (laws_lwSame.ls N) rfl rfl ?_
  intro ds R k y h
  cases ds with
  | nil => exact none_some h
  | cons d0 ds =>
  cases ds with
  | nil => exact none_some h
  | cons d1 ds =>
  cases ds with
  | cons _ _ => exact none_some h
  | nil =>
  have h0 : (castDm (.sl 2 (.int .i64)) .imm d0 fun x0 => castDm (.sl 2 (.int .i64)) .imm d1 fun x1 => bindO (laws_lwSame N x0 x1) fun r => k [⟨.bool, .imm, r⟩] []) = some y := h
  clear h
  obtain ⟨x0, rfl, h1⟩ := castDm_eq h0
  obtain ⟨x1, rfl, h2⟩ := castDm_eq h1
  exact con_fin (laws_lwSame.b N x0 x1) h2
theorem laws_lwSame.det (N : Nat) : ConDet (laws_lwSame.con N) := by
  intro ds R k y h
  cases ds with
  | nil => exact none_some h
  | cons d0 ds =>
  cases ds with
  | nil => exact none_some h
  | cons d1 ds =>
  cases ds with
  | cons _ _ => exact none_some h
  | nil =>
  have h0 : (castDm (.sl 2 (.int .i64)) .imm d0 fun x0 => castDm (.sl 2 (.int .i64)) .imm d1 fun x1 => bindO (laws_lwSame N x0 x1) fun r => k [⟨.bool, .imm, r⟩] []) = some y := h
  clear h
  obtain ⟨x0, rfl, h1⟩ := castDm_eq h0
  obtain ⟨x1, rfl, h2⟩ := castDm_eq h1
  obtain ⟨r, e, h⟩ := bindO_some h2
  refine ⟨_, _, h, fun k' => ?_⟩
  show (castDm (.sl 2 (.int .i64)) .imm (⟨(.sl 2 (.int .i64)), .imm, x0⟩ : Dy) fun x0 => castDm (.sl 2 (.int .i64)) .imm (⟨(.sl 2 (.int .i64)), .imm, x1⟩ : Dy) fun x1 => bindO (laws_lwSame N x0 x1) fun r => k' [⟨.bool, .imm, r⟩] []) = _
  simp only [castDm_self]
  rw [e]
  rfl
noncomputable def laws_lwBegins.con (N : Nat) : Con := { modes := [.v, .v], ptrs := [false], fn := fun ds k => match ds with | [d0, d1] => castDm (.sl 2 (.int .i64)) .imm d0 fun x0 => castDm (.sl 2 (.int .i64)) .imm d1 fun x1 => bindO (laws_lwBegins N x0 x1) fun r => k [⟨.bool, .imm, r⟩] [] | _ => none }
noncomputable def laws_lwBegins.cfg (N : Nat) : Cfg := { ty := tys, keep := [16], flt := [], elm := [(22, (.own .imm)), (23, (.own (.own .imm))), (24, (.own .imm)), (43, (.pr (.own .imm) .imm)), (44, (.pr (.own .imm) .imm)), (48, (.own .imm))], live := [], ord := [], con := [((9, [.one, .one]), laws_lwSame.con N)], loops := [], joins := [] }
theorem laws_lwBegins.cons (N : Nat) : ConsOk Try.prog (laws_lwBegins.cfg N).con := (consOk_cons (hb9) (laws_lwSame.ok N) (laws_lwSame.det N) consOk_nil)
theorem laws_lwBegins.ls (N : Nat) : LoopsOk Try.prog (laws_lwBegins.cfg N) (fnBody Try.f13) := loopsL (l := []) (by kernel_rfl) trivial
theorem laws_lwBegins.b (N : Nat) (x0 : den (.sl 2 (.int .i64))) (x1 : den (.sl 2 (.int .i64))) : body (laws_lwBegins.cfg N) N Try.f13 [.one, .one] [.v, .v] [(false, .imm)] [⟨(.sl 2 (.int .i64)), .imm, x0⟩, ⟨(.sl 2 (.int .i64)), .imm, x1⟩] (fun r i => some (r, i)) = bindO (laws_lwBegins N x0 x1) fun r => some ([⟨.bool, .imm, r⟩], []) := by
  show _ = bindF _ _
  conv => rhs; simp only [laws_lwBegins, bindF_ifB, bindF_bindO, bindF_pure, bindF_none, bindF_onSum]
  kernel_rfl
theorem laws_lwBegins.ok (N : Nat) : ConOk Try.prog 13 [.one, .one] (laws_lwBegins.con N) := by
  refine conOk_mk (g := laws_lwBegins.cfg N) (N := N) (res := [(false, .imm)]) tys_ok (laws_lwBegins.cons N) mixed Try.func13 (laws_lwBegins.ls N) rfl rfl ?_
  intro ds R k y h
  cases ds with
  | nil => exact none_some h
  | cons d0 ds =>
  cases ds with
  | nil => exact none_some h
  | cons d1 ds =>
  cases ds with
  | cons _ _ => exact none_some h
  | nil =>
  have h0 : (castDm (.sl 2 (.int .i64)) .imm d0 fun x0 => castDm (.sl 2 (.int .i64)) .imm d1 fun x1 => bindO (laws_lwBegins N x0 x1) fun r => k [⟨.bool, .imm, r⟩] []) = some y := h
  clear h
  obtain ⟨x0, rfl, h1⟩ := castDm_eq h0
  obtain ⟨x1, rfl, h2⟩ := castDm_eq h1
  exact con_fin (laws_lwBegins.b N x0 x1) h2
theorem laws_lwBegins.det (N : Nat) : ConDet (laws_lwBegins.con N) := by
  intro ds R k y h
  cases ds with
  | nil => exact none_some h
  | cons d0 ds =>
  cases ds with
  | nil => exact none_some h
  | cons d1 ds =>
  cases ds with
  | cons _ _ => exact none_some h
  | nil =>
  have h0 : (castDm (.sl 2 (.int .i64)) .imm d0 fun x0 => castDm (.sl 2 (.int .i64)) .imm d1 fun x1 => bindO (laws_lwBegins N x0 x1) fun r => k [⟨.bool, .imm, r⟩] []) = some y := h
  clear h
  obtain ⟨x0, rfl, h1⟩ := castDm_eq h0
  obtain ⟨x1, rfl, h2⟩ := castDm_eq h1
  obtain ⟨r, e, h⟩ := bindO_some h2
  refine ⟨_, _, h, fun k' => ?_⟩
  show (castDm (.sl 2 (.int .i64)) .imm (⟨(.sl 2 (.int .i64)), .imm, x0⟩ : Dy) fun x0 => castDm (.sl 2 (.int .i64)) .imm (⟨(.sl 2 (.int .i64)), .imm, x1⟩ : Dy) fun x1 => bindO (laws_lwBegins N x0 x1) fun r => k' [⟨.bool, .imm, r⟩] []) = _
  simp only [castDm_self]
  rw [e]
  rfl
def laws_FnComplete.sk12 : Skel := ⟨[.dead, .dead, .dead, .ov 50 [], .ov 51 [], .ov 52 [], .ov 53 [], .pv (.int .i64), .pv (.int .i64), .dead, .dead, .dead, .dead, .dead, .dead, .dead, .dead, .dead, .dead, .dead, .dead, .dead, .dead, .dead, .dead, .dead, .dead, .dead, .dead, .dead, .dead, .dead, .dead, .dead, .dead, .dead, .dead, .dead, .dead, .dead, .dead, .dead, .dead, .dead, .dead, .dead, .dead, .dead, .dead, .dead, .dead, .dead, .dead, .dead, .dead, .dead, .dead, .dead, .dead, .dead, .dead, .dead, .dead, .dead, .dead, .dead, .dead, .dead, .dead, .dead, .dead, .dead, .dead, .dead, .dead, .dead, .dead, .dead, .dead, .dead, .dead, .dead, .dead, .dead, .dead, .dead, .dead, .dead, .dead, .dead, .dead, .dead], [⟨50, (.sl 24 (.sl 2 (.int .i64))), (.own (.own .imm)), false, false⟩, ⟨51, (.sl 2 (.int .i64)), (.own .imm), false, false⟩, ⟨52, (.sl 2 (.int .i64)), (.own .imm), false, false⟩, ⟨53, (.sl 2 (.int .i64)), (.own .imm), false, false⟩]⟩
def laws_FnComplete.xs12 : List XS := [⟨.exit 0, [4, 5, 6, 7, 88, 89, 90], ⟨[.dead, .dead, .dead, .dead, .ov 50 [], .ov 51 [], .ov 52 [], .pv (.int .i64), .dead, .dead, .dead, .dead, .dead, .dead, .dead, .dead, .dead, .dead, .dead, .dead, .dead, .dead, .dead, .dead, .dead, .dead, .dead, .dead, .dead, .dead, .dead, .dead, .dead, .dead, .dead, .dead, .dead, .dead, .dead, .dead, .dead, .dead, .dead, .dead, .dead, .dead, .dead, .dead, .dead, .dead, .dead, .dead, .dead, .dead, .dead, .dead, .dead, .dead, .dead, .dead, .dead, .dead, .dead, .dead, .dead, .dead, .dead, .dead, .dead, .dead, .dead, .dead, .dead, .dead, .dead, .dead, .dead, .dead, .dead, .dead, .dead, .dead, .dead, .dead, .dead, .dead, .dead, .dead, .dead, .dead, .dead, .dead], [⟨50, (.sl 2 (.int .i64)), (.own .imm), false, false⟩, ⟨51, (.sl 2 (.int .i64)), (.own .imm), false, false⟩, ⟨52, (.sl 2 (.int .i64)), (.own .imm), false, false⟩]⟩⟩, ⟨.ret, [2], ⟨[.dead, .dead, .pv .bool, .dead, .dead, .dead, .dead, .dead, .dead, .dead, .dead, .dead, .dead, .dead, .dead, .dead, .dead, .dead, .dead, .dead, .dead, .dead, .dead, .dead, .dead, .dead, .dead, .dead, .dead, .dead, .dead, .dead, .dead, .dead, .dead, .dead, .dead, .dead, .dead, .dead, .dead, .dead, .dead, .dead, .dead, .dead, .dead, .dead, .dead, .dead, .dead, .dead, .dead, .dead, .dead, .dead, .dead, .dead, .dead, .dead, .dead, .dead, .dead, .dead, .dead, .dead, .dead, .dead, .dead, .dead, .dead, .dead, .dead, .dead, .dead, .dead, .dead, .dead, .dead, .dead, .dead, .dead, .dead, .dead, .dead, .dead, .dead, .dead, .dead, .dead, .dead, .dead], []⟩⟩]
noncomputable def laws_FnComplete.con (N : Nat) : Con := { modes := [.v], ptrs := [false], fn := fun ds k => match ds with | [d0] => castDm (.sl 5 (.int .u8)) .imm d0 fun x0 => bindO (laws_FnComplete N x0) fun r => k [⟨.bool, .imm, r⟩] [] | _ => none }
noncomputable def laws_FnComplete.cfg (N : Nat) : Cfg := { ty := tys, keep := [14, 18, 20, 21, 23, 25, 26, 30, 31, 37, 38, 42, 58, 78, 90], flt := [], elm := [(22, (.own .imm)), (23, (.own (.own .imm))), (24, (.own .imm)), (43, (.pr (.own .imm) .imm)), (44, (.pr (.own .imm) .imm)), (48, (.own .imm))], live := [(12, [3, 4, 5, 6, 7, 8, 65, 66, 67, 68, 69, 70, 73, 74, 75, 76, 77, 78, 79, 88, 89, 90])], ord := [], con := [((4, [.one]), spec_DrawCompCommon.con N), ((6, [.one]), laws_lwAll.con N), ((7, [.one]), laws_lwCopy.con N), ((5, [.one, .one]), impl_CompCommon.con N), ((8, [.one, .one]), impl_CompMatch.con N), ((10, [.one, .one]), spec_CompCommon.con N), ((9, [.one, .one]), laws_lwSame.con N), ((11, [.one, .one]), spec_CompMatch.con N), ((12, [.one]), spec_CandsRight.con N), ((13, [.one, .one]), laws_lwBegins.con N)], loops := [(12, loopCon N laws_FnComplete.sk12 laws_FnComplete.xs12 (fun {R} => laws_FnComplete.l12 (R := R) N))], joins := [(13, [⟨.normal, [3, 4, 5, 6, 7, 8, 65, 66, 67, 68, 69, 70, 73, 74, 75, 76, 77, 78, 79, 88, 89, 90], ⟨[.dead, .dead, .dead, .ov 50 [], .ov 51 [], .ov 52 [], .ov 53 [], .pv (.int .i64), .pv (.int .i64), .dead, .dead, .dead, .dead, .dead, .dead, .dead, .dead, .dead, .dead, .dead, .dead, .dead, .dead, .dead, .dead, .dead, .dead, .dead, .dead, .dead, .dead, .dead, .dead, .dead, .dead, .dead, .dead, .dead, .dead, .dead, .dead, .dead, .dead, .dead, .dead, .dead, .dead, .dead, .dead, .dead, .dead, .dead, .dead, .dead, .dead, .dead, .dead, .dead, .dead, .dead, .dead, .dead, .dead, .dead, .dead, .dead, .dead, .dead, .dead, .dead, .dead, .dead, .dead, .dead, .dead, .dead, .dead, .dead, .dead, .dead, .dead, .dead, .dead, .dead, .dead, .dead, .dead, .dead, .dead, .dead, .dead, .dead], [⟨50, (.sl 24 (.sl 2 (.int .i64))), (.own (.own .imm)), false, false⟩, ⟨51, (.sl 2 (.int .i64)), (.own .imm), false, false⟩, ⟨52, (.sl 2 (.int .i64)), (.own .imm), false, false⟩, ⟨53, (.sl 2 (.int .i64)), (.own .imm), false, false⟩]⟩⟩, ⟨.ret, [2], ⟨[.dead, .dead, .pv .bool, .dead, .dead, .dead, .dead, .dead, .dead, .dead, .dead, .dead, .dead, .dead, .dead, .dead, .dead, .dead, .dead, .dead, .dead, .dead, .dead, .dead, .dead, .dead, .dead, .dead, .dead, .dead, .dead, .dead, .dead, .dead, .dead, .dead, .dead, .dead, .dead, .dead, .dead, .dead, .dead, .dead, .dead, .dead, .dead, .dead, .dead, .dead, .dead, .dead, .dead, .dead, .dead, .dead, .dead, .dead, .dead, .dead, .dead, .dead, .dead, .dead, .dead, .dead, .dead, .dead, .dead, .dead, .dead, .dead, .dead, .dead, .dead, .dead, .dead, .dead, .dead, .dead, .dead, .dead, .dead, .dead, .dead, .dead, .dead, .dead, .dead, .dead, .dead, .dead], []⟩⟩])] }
theorem laws_FnComplete.cons (N : Nat) : ConsOk Try.prog (laws_FnComplete.cfg N).con := (consOk_cons (hb4) (spec_DrawCompCommon.ok N) (spec_DrawCompCommon.det N) (consOk_cons (hb6) (laws_lwAll.ok N) (laws_lwAll.det N) (consOk_cons (hb7) (laws_lwCopy.ok N) (laws_lwCopy.det N) (consOk_cons (hb5) (impl_CompCommon.ok N) (impl_CompCommon.det N) (consOk_cons (hb8) (impl_CompMatch.ok N) (impl_CompMatch.det N) (consOk_cons (hb10) (spec_CompCommon.ok N) (spec_CompCommon.det N) (consOk_cons (hb9) (laws_lwSame.ok N) (laws_lwSame.det N) (consOk_cons (hb11) (spec_CompMatch.ok N) (spec_CompMatch.det N) (consOk_cons (hb12) (spec_CandsRight.ok N) (spec_CandsRight.det N) (consOk_cons (hb13) (laws_lwBegins.ok N) (laws_lwBegins.det N) consOk_nil))))))))))
theorem laws_FnComplete.h12 {R : Type} (N : Nat) (d : laws_FnComplete.sk12.D) (kn : laws_FnComplete.sk12.D → Option R) (kx : XD laws_FnComplete.xs12 → Option R) : roundK (laws_FnComplete.cfg N) N (nthLoop (fnBody Try.f3) 0) laws_FnComplete.sk12 laws_FnComplete.xs12 d kn kx = laws_FnComplete.l12 N d kn kx := by kernel_rfl
theorem laws_FnComplete.i12 (N : Nat) : LoopsOk Try.prog (laws_FnComplete.cfg N) (nthLoop (fnBody Try.f3) 0) := loopsL (l := []) (by kernel_rfl) trivial
theorem laws_FnComplete.o12 (N : Nat) : LoopOk Try.prog (nthLoop (fnBody Try.f3) 0) (loopCon N laws_FnComplete.sk12 laws_FnComplete.xs12 (fun {R} => laws_FnComplete.l12 (R := R) N)) := loop_ok (g := laws_FnComplete.cfg N) tys_ok (laws_FnComplete.cons N) mixed (laws_FnComplete.i12 N) (fun d kn kx => laws_FnComplete.h12 N d kn kx)
theorem laws_FnComplete.ls (N : Nat) : LoopsOk Try.prog (laws_FnComplete.cfg N) (fnBody Try.f3) := loopsL (l := [nthLoop (fnBody Try.f3) 0]) (by kernel_rfl) ⟨loopOne (L0 := loopCon N laws_FnComplete.sk12 laws_FnComplete.xs12 (fun {R} => laws_FnComplete.l12 (R := R) N)) (id := 12) (by kernel_rfl) (by kernel_rfl) (laws_FnComplete.o12 N), trivial⟩
theorem laws_FnComplete.q12 {R R' : Type} {N n : Nat} {d} {k} {g : R → Option R'} : bindF (loopP (laws_FnComplete.l12 N) n d k) g = loopP (laws_FnComplete.l12 N) n d fun e => bindF (k e) g := bindF_loopP (fun d kn kx => by simp only [laws_FnComplete.l12, bindF_ifB, bindF_bindO, bindF_pure, bindF_none, bindF_onSum]) n d k
theorem laws_FnComplete.b (N : Nat) (x0 : den (.sl 5 (.int .u8))) : body (laws_FnComplete.cfg N) N Try.f3 [.one] [.v] [(false, .imm)] [⟨(.sl 5 (.int .u8)), .imm, x0⟩] (fun r i => some (r, i)) = bindO (laws_FnComplete N x0) fun r => some ([⟨.bool, .imm, r⟩], []) := by
  show _ = bindF _ _
  conv => rhs; simp only [laws_FnComplete, bindF_ifB, bindF_bindO, bindF_pure, bindF_none, bindF_onSum, laws_FnComplete.q12]
  kernel_rfl
theorem laws_FnComplete.ok (N : Nat) : ConOk Try.prog 3 [.one] (laws_FnComplete.con N) := by
  refine conOk_mk (g := laws_FnComplete.cfg N) (N := N) (res := [(false, .imm)]) tys_ok (laws_FnComplete.cons N) mixed Try.func3 (laws_FnComplete.ls N) rfl rfl ?_
  intro ds R k y h
  cases ds with
  | nil => exact none_some h
  | cons d0 ds =>
  cases ds with
  | cons _ _ => exact none_some h
  | nil =>
  have h0 : (castDm (.sl 5 (.int .u8)) .imm d0 fun x0 => bindO (laws_FnComplete N x0) fun r => k [⟨.bool, .imm, r⟩] []) = some y := h
  clear h
  obtain ⟨x0, rfl, h1⟩ := castDm_eq h0
  exact con_fin (laws_FnComplete.b N x0) h1
theorem laws_FnComplete.det (N : Nat) : ConDet (laws_FnComplete.con N) := by
  intro ds R k y h
  cases ds with
  | nil => exact none_some h
  | cons d0 ds =>
  cases ds with
  | cons _ _ => exact none_some h
  | nil =>
  have h0 : (castDm (.sl 5 (.int .u8)) .imm d0 fun x0 => bindO (laws_FnComplete N x0) fun r => k [⟨.bool, .imm, r⟩] []) = some y := h
  clear h
  obtain ⟨x0, rfl, h1⟩ := castDm_eq h0
  obtain ⟨r, e, h⟩ := bindO_some h1
  refine ⟨_, _, h, fun k' => ?_⟩
  show (castDm (.sl 5 (.int .u8)) .imm (⟨(.sl 5 (.int .u8)), .imm, x0⟩ : Dy) fun x0 => bindO (laws_FnComplete N x0) fun r => k' [⟨.bool, .imm, r⟩] []) = _
  simp only [castDm_self]
  rw [e]
  rfl
end Go.AE.F
