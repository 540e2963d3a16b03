/- The printed functions are what the program comes to: contracts. -/
import Derived.Test.YtjofefnjigmnlaaF11
import Derived.Test.YtjofefnjigmnlaaXCodeDepthsT
namespace Go.AE.F
open Go.AE Go.Proofs
set_option maxRecDepth 100000
noncomputable def laws_szOpS.con (N : Nat) : Con := { modes := [.v, .v], ptrs := [false], fn := fun ds k => match ds with | [d0, d1] => castDm (.sl 39 (.pair (.int .i64) (.pair (.int .i64) .unit))) .imm d0 fun x0 => castDm (.int .i64) .imm d1 fun x1 => bindO (laws_szOpS N x0 x1) fun r => k [⟨(.int .i64), .imm, r⟩] [] | _ => none }
noncomputable def laws_szOpS.cfg (N : Nat) : Cfg := { ty := tys, keep := [], flt := [], elm := [(22, (.own .imm)), (24, (.own .imm)), (26, (.own .imm))], live := [], ord := [], con := [], loops := [], joins := [] }
theorem laws_szOpS.cons (N : Nat) : ConsOk Try.prog (laws_szOpS.cfg N).con := consOk_nil
theorem laws_szOpS.ls (N : Nat) : LoopsOk Try.prog (laws_szOpS.cfg N) (fnBody Try.f4) := loopsL (l := []) (by kernel_rfl) trivial
theorem laws_szOpS.b (N : Nat) (x0 : den (.sl 39 (.pair (.int .i64) (.pair (.int .i64) .unit)))) (x1 : den (.int .i64)) : body (laws_szOpS.cfg N) N Try.f4 [.one, .one] [.v, .v] [(false, .imm)] [⟨(.sl 39 (.pair (.int .i64) (.pair (.int .i64) .unit))), .imm, x0⟩, ⟨(.int .i64), .imm, x1⟩] (fun r i => some (r, i)) = bindO (laws_szOpS N x0 x1) fun r => some ([⟨(.int .i64), .imm, r⟩], []) := by
  show _ = bindF _ _
  conv => rhs; simp only [laws_szOpS, bindF_ifB, bindF_bindO, bindF_pure, bindF_none, bindF_onSum]
  kernel_rfl
theorem laws_szOpS.ok (N : Nat) : ConOk Try.prog 4 [.one, .one] (laws_szOpS.con N) := by
  refine conOk_mk (g := laws_szOpS.cfg N) (N := N) (res := [(false, .imm)]) tys_ok (laws_szOpS.cons N) mixed Try.func4 (laws_szOpS.ls N) rfl rfl ?_
  intro ds R k y h
  cases ds with
  | nil => exact none_some h
  | cons d0 ds =>
  cases ds with
  | nil => exact none_some h
  | cons d1 ds =>
  cases ds with
  | cons _ _ => exact none_some h
  | nil =>
  have h0 : (castDm (.sl 39 (.pair (.int .i64) (.pair (.int .i64) .unit))) .imm d0 fun x0 => castDm (.int .i64) .imm d1 fun x1 => bindO (laws_szOpS N x0 x1) fun r => k [⟨(.int .i64), .imm, r⟩] []) = some y := h
  clear h
  obtain ⟨x0, rfl, h1⟩ := castDm_eq h0
  obtain ⟨x1, rfl, h2⟩ := castDm_eq h1
  exact con_fin (laws_szOpS.b N x0 x1) h2
theorem laws_szOpS.det (N : Nat) : ConDet (laws_szOpS.con N) := by
  intro ds R k y h
  cases ds with
  | nil => exact none_some h
  | cons d0 ds =>
  cases ds with
  | nil => exact none_some h
  | cons d1 ds =>
  cases ds with
  | cons _ _ => exact none_some h
  | nil =>
  have h0 : (castDm (.sl 39 (.pair (.int .i64) (.pair (.int .i64) .unit))) .imm d0 fun x0 => castDm (.int .i64) .imm d1 fun x1 => bindO (laws_szOpS N x0 x1) fun r => k [⟨(.int .i64), .imm, r⟩] []) = some y := h
  clear h
  obtain ⟨x0, rfl, h1⟩ := castDm_eq h0
  obtain ⟨x1, rfl, h2⟩ := castDm_eq h1
  obtain ⟨r, e, h⟩ := bindO_some h2
  refine ⟨_, _, h, fun k' => ?_⟩
  show (castDm (.sl 39 (.pair (.int .i64) (.pair (.int .i64) .unit))) .imm (⟨(.sl 39 (.pair (.int .i64) (.pair (.int .i64) .unit))), .imm, x0⟩ : Dy) fun x0 => castDm (.int .i64) .imm (⟨(.int .i64), .imm, x1⟩ : Dy) fun x1 => bindO (laws_szOpS N x0 x1) fun r => k' [⟨(.int .i64), .imm, r⟩] []) = _
  simp only [castDm_self]
  rw [e]
  rfl
noncomputable def laws_toOp.con (N : Nat) : Con := { modes := [.v], ptrs := [false], fn := fun ds k => match ds with | [d0] => castDm (.pair (.int .i64) (.pair (.int .i64) .unit)) .imm d0 fun x0 => bindO (laws_toOp N x0) fun r => k [⟨(.pair (.int .i64) (.pair (.int .i64) .unit)), .imm, r⟩] [] | _ => none }
noncomputable def laws_toOp.cfg (N : Nat) : Cfg := { ty := tys, keep := [], flt := [], elm := [(22, (.own .imm)), (24, (.own .imm)), (26, (.own .imm))], live := [], ord := [], con := [], loops := [], joins := [] }
theorem laws_toOp.cons (N : Nat) : ConsOk Try.prog (laws_toOp.cfg N).con := consOk_nil
theorem laws_toOp.ls (N : Nat) : LoopsOk Try.prog (laws_toOp.cfg N) (fnBody Try.f15) := loopsL (l := []) (by kernel_rfl) trivial
theorem laws_toOp.b (N : Nat) (x0 : den (.pair (.int .i64) (.pair (.int .i64) .unit))) : body (laws_toOp.cfg N) N Try.f15 [.one] [.v] [(false, .imm)] [⟨(.pair (.int .i64) (.pair (.int .i64) .unit)), .imm, x0⟩] (fun r i => some (r, i)) = bindO (laws_toOp N x0) fun r => some ([⟨(.pair (.int .i64) (.pair (.int .i64) .unit)), .imm, r⟩], []) := by
  show _ = bindF _ _
  conv => rhs; simp only [laws_toOp, bindF_ifB, bindF_bindO, bindF_pure, bindF_none, bindF_onSum]
  kernel_rfl
theorem laws_toOp.ok (N : Nat) : ConOk Try.prog 15 [.one] (laws_toOp.con N) := by
  refine conOk_mk (g := laws_toOp.cfg N) (N := N) (res := [(false, .imm)]) tys_ok (laws_toOp.cons N) mixed Try.func15 (laws_toOp.ls N) rfl rfl ?_
  intro ds R k y h
  cases ds with
  | nil => exact none_some h
  | cons d0 ds =>
  cases ds with
  | cons _ _ => exact none_some h
  | nil =>
  have h0 : (castDm (.pair (.int .i64) (.pair (.int .i64) .unit)) .imm d0 fun x0 => bindO (laws_toOp N x0) fun r => k [⟨(.pair (.int .i64) (.pair (.int .i64) .unit)), .imm, r⟩] []) = some y := h
  clear h
  obtain ⟨x0, rfl, h1⟩ := castDm_eq h0
  exact con_fin (laws_toOp.b N x0) h1
theorem laws_toOp.det (N : Nat) : ConDet (laws_toOp.con N) := by
  intro ds R k y h
  cases ds with
  | nil => exact none_some h
  | cons d0 ds =>
  cases ds with
  | cons _ _ => exact none_some h
  | nil =>
  have h0 : (castDm (.pair (.int .i64) (.pair (.int .i64) .unit)) .imm d0 fun x0 => bindO (laws_toOp N x0) fun r => k [⟨(.pair (.int .i64) (.pair (.int .i64) .unit)), .imm, r⟩] []) = some y := h
  clear h
  obtain ⟨x0, rfl, h1⟩ := castDm_eq h0
  obtain ⟨r, e, h⟩ := bindO_some h1
  refine ⟨_, _, h, fun k' => ?_⟩
  show (castDm (.pair (.int .i64) (.pair (.int .i64) .unit)) .imm (⟨(.pair (.int .i64) (.pair (.int .i64) .unit)), .imm, x0⟩ : Dy) fun x0 => bindO (laws_toOp N x0) fun r => k' [⟨(.pair (.int .i64) (.pair (.int .i64) .unit)), .imm, r⟩] []) = _
  simp only [castDm_self]
  rw [e]
  rfl
def laws_toOpS.sk3 : Skel := ⟨[.pv (.sl 39 (.pair (.int .i64) (.pair (.int .i64) .unit))), .dead, .dead, .ov 50 [], .pv (.int .i64), .dead, .dead, .dead, .dead, .dead, .dead, .dead, .dead, .dead, .dead, .dead, .dead, .dead, .dead, .dead, .dead, .dead, .dead], [⟨50, (.sl 37 (.pair (.int .i64) (.pair (.int .i64) .unit))), (.own .imm), false, false⟩]⟩
def laws_toOpS.xs3 : List XS := [⟨.exit 0, [3], ⟨[.dead, .dead, .dead, .ov 50 [], .dead, .dead, .dead, .dead, .dead, .dead, .dead, .dead, .dead, .dead, .dead, .dead, .dead, .dead, .dead, .dead, .dead, .dead, .dead], [⟨50, (.sl 37 (.pair (.int .i64) (.pair (.int .i64) .unit))), (.own .imm), false, false⟩]⟩⟩]
noncomputable def laws_toOpS.con (N : Nat) : Con := { modes := [.v], ptrs := [false], fn := fun ds k => match ds with | [d0] => castDm (.sl 39 (.pair (.int .i64) (.pair (.int .i64) .unit))) .imm d0 fun x0 => bindO (laws_toOpS N x0) fun r => k [⟨(.sl 37 (.pair (.int .i64) (.pair (.int .i64) .unit))), (.own .imm), r⟩] [] | _ => none }
noncomputable def laws_toOpS.cfg (N : Nat) : Cfg := { ty := tys, keep := [20], flt := [], elm := [(22, (.own .imm)), (24, (.own .imm)), (26, (.own .imm))], live := [(3, [0, 3, 4])], ord := [], con := [((15, [.one]), laws_toOp.con N)], loops := [(3, loopCon N laws_toOpS.sk3 laws_toOpS.xs3 (fun {R} => laws_toOpS.l3 (R := R) N))], joins := [] }
theorem laws_toOpS.cons (N : Nat) : ConsOk Try.prog (laws_toOpS.cfg N).con := (consOk_cons (hb15) (laws_toOp.ok N) (laws_toOp.det N) consOk_nil)
theorem laws_toOpS.h3 {R : Type} (N : Nat) (d : laws_toOpS.sk3.D) (kn : laws_toOpS.sk3.D → Option R) (kx : XD laws_toOpS.xs3 → Option R) : roundK (laws_toOpS.cfg N) N (nthLoop (fnBody Try.f6) 0) laws_toOpS.sk3 laws_toOpS.xs3 d kn kx = laws_toOpS.l3 N d kn kx := by kernel_rfl
theorem laws_toOpS.i3 (N : Nat) : LoopsOk Try.prog (laws_toOpS.cfg N) (nthLoop (fnBody Try.f6) 0) := loopsL (l := []) (by kernel_rfl) trivial
theorem laws_toOpS.o3 (N : Nat) : LoopOk Try.prog (nthLoop (fnBody Try.f6) 0) (loopCon N laws_toOpS.sk3 laws_toOpS.xs3 (fun {R} => laws_toOpS.l3 (R := R) N)) := loop_ok (g := laws_toOpS.cfg N) tys_ok (laws_toOpS.cons N) mixed (laws_toOpS.i3 N) (fun d kn kx => laws_toOpS.h3 N d kn kx)
theorem laws_toOpS.ls (N : Nat) : LoopsOk Try.prog (laws_toOpS.cfg N) (fnBody Try.f6) := loopsL (l := [nthLoop (fnBody Try.f6) 0]) (by kernel_rfl) ⟨loopOne (L0 := loopCon N laws_toOpS.sk3 laws_toOpS.xs3 (fun {R} => laws_toOpS.l3 (R := R) N)) (id := 3) (by kernel_rfl) (by kernel_rfl) (laws_toOpS.o3 N), trivial⟩
theorem laws_toOpS.q3 {R R' : Type} {N n : Nat} {d} {k} {g : R → Option R'} : bindF (loopP (laws_toOpS.l3 N) n d k) g = loopP (laws_toOpS.l3 N) n d fun e => bindF (k e) g := bindF_loopP (fun d kn kx => by simp only [laws_toOpS.l3, bindF_ifB, bindF_bindO, bindF_pure, bindF_none, bindF_onSum]) n d k
theorem laws_toOpS.b (N : Nat) (x0 : den (.sl 39 (.pair (.int .i64) (.pair (.int .i64) .unit)))) : body (laws_toOpS.cfg N) N Try.f6 [.one] [.v] [(false, (.own .imm))] [⟨(.sl 39 (.pair (.int .i64) (.pair (.int .i64) .unit))), .imm, x0⟩] (fun r i => some (r, i)) = bindO (laws_toOpS N x0) fun r => some ([⟨(.sl 37 (.pair (.int .i64) (.pair (.int .i64) .unit))), (.own .imm), r⟩], []) := by
  show _ = bindF _ _
  conv => rhs; simp only [laws_toOpS, bindF_ifB, bindF_bindO, bindF_pure, bindF_none, bindF_onSum, laws_toOpS.q3]
  kernel_rfl
theorem laws_toOpS.ok (N : Nat) : ConOk Try.prog 6 [.one] (laws_toOpS.con N) := by
  refine conOk_mk (g := laws_toOpS.cfg N) (N := N) (res := [(false, (.own .imm))]) tys_ok (laws_toOpS.cons N) mixed Try.func6 (laws_toOpS.ls N) rfl rfl ?_
  intro ds R k y h
  cases ds with
  | nil => exact none_some h
  | cons d0 ds =>
  cases ds with
  | cons _ _ => exact none_some h
  | nil =>
  have h0 : (castDm (.sl 39 (.pair (.int .i64) (.pair (.int .i64) .unit))) .imm d0 fun x0 => bindO (laws_toOpS N x0) fun r => k [⟨(.sl 37 (.pair (.int .i64) (.pair (.int .i64) .unit))), (.own .imm), r⟩] []) = some y := h
  clear h
  obtain ⟨x0, rfl, h1⟩ := castDm_eq h0
  exact con_fin (laws_toOpS.b N x0) h1
theorem laws_toOpS.det (N : Nat) : ConDet (laws_toOpS.con N) := by
  intro ds R k y h
  cases ds with
  | nil => exact none_some h
  | cons d0 ds =>
  cases ds with
  | cons _ _ => exact none_some h
  | nil =>
  have h0 : (castDm (.sl 39 (.pair (.int .i64) (.pair (.int .i64) .unit))) .imm d0 fun x0 => bindO (laws_toOpS N x0) fun r => k [⟨(.sl 37 (.pair (.int .i64) (.pair (.int .i64) .unit))), (.own .imm), r⟩] []) = some y := h
  clear h
  obtain ⟨x0, rfl, h1⟩ := castDm_eq h0
  obtain ⟨r, e, h⟩ := bindO_some h1
  refine ⟨_, _, h, fun k' => ?_⟩
  show (castDm (.sl 39 (.pair (.int .i64) (.pair (.int .i64) .unit))) .imm (⟨(.sl 39 (.pair (.int .i64) (.pair (.int .i64) .unit))), .imm, x0⟩ : Dy) fun x0 => bindO (laws_toOpS N x0) fun r => k' [⟨(.sl 37 (.pair (.int .i64) (.pair (.int .i64) .unit))), (.own .imm), r⟩] []) = _
  simp only [castDm_self]
  rw [e]
  rfl
noncomputable def spec_l13Op.con (N : Nat) : Con := { modes := [.v, .v], ptrs := [false], fn := fun ds k => match ds with | [d0, d1] => castDm (.pair (.int .i64) (.pair (.int .i64) .unit)) .imm d0 fun x0 => castDm (.int .i64) .imm d1 fun x1 => bindO (spec_l13Op N x0 x1) fun r => k [⟨.bool, .imm, r⟩] [] | _ => none }
noncomputable def spec_l13Op.cfg (N : Nat) : Cfg := { ty := tys, keep := [], flt := [], elm := [(22, (.own .imm)), (24, (.own .imm)), (26, (.own .imm))], live := [], ord := [], con := [], loops := [], joins := [] }
theorem spec_l13Op.cons (N : Nat) : ConsOk Try.prog (spec_l13Op.cfg N).con := consOk_nil
theorem spec_l13Op.ls (N : Nat) : LoopsOk Try.prog (spec_l13Op.cfg N) (fnBody Try.f18) := loopsL (l := []) (by kernel_rfl) trivial
theorem spec_l13Op.b (N : Nat) (x0 : den (.pair (.int .i64) (.pair (.int .i64) .unit))) (x1 : den (.int .i64)) : body (spec_l13Op.cfg N) N Try.f18 [.one, .one] [.v, .v] [(false, .imm)] [⟨(.pair (.int .i64) (.pair (.int .i64) .unit)), .imm, x0⟩, ⟨(.int .i64), .imm, x1⟩] (fun r i => some (r, i)) = bindO (spec_l13Op N x0 x1) fun r => some ([⟨.bool, .imm, r⟩], []) := by
  show _ = bindF _ _
  conv => rhs; simp only [spec_l13Op, bindF_ifB, bindF_bindO, bindF_pure, bindF_none, bindF_onSum]
  kernel_rfl
theorem spec_l13Op.ok (N : Nat) : ConOk Try.prog 18 [.one, .one] (spec_l13Op.con N) := by
  refine conOk_mk (g := spec_l13Op.cfg N) (N := N) (res := [(false, .imm)]) tys_ok (spec_l13Op.cons N) mixed Try.func18 (spec_l13Op.ls N) rfl rfl ?_
  intro ds R k y h
  cases ds with
  | nil => exact none_some h
  | cons d0 ds =>
  cases ds with
  | nil => exact none_some h
  | cons d1 ds =>
  cases ds with
  | cons _ _ => exact none_some h
  | nil =>
  have h0 : (castDm (.pair (.int .i64) (.pair (.int .i64) .unit)) .imm d0 fun x0 => castDm (.int .i64) .imm d1 fun x1 => bindO (spec_l13Op N x0 x1) fun r => k [⟨.bool, .imm, r⟩] []) = some y := h
  clear h
  obtain ⟨x0, rfl, h1⟩ := castDm_eq h0
  obtain ⟨x1, rfl, h2⟩ := castDm_eq h1
  exact con_fin (spec_l13Op.b N x0 x1) h2
theorem spec_l13Op.det (N : Nat) : ConDet (spec_l13Op.con N) := by
  intro ds R k y h
  cases ds with
  | nil => exact none_some h
  | cons d0 ds =>
  cases ds with
  | nil => exact none_some h
  | cons d1 ds =>
  cases ds with
  | cons _ _ => exact none_some h
  | nil =>
  have h0 : (castDm (.pair (.int .i64) (.pair (.int .i64) .unit)) .imm d0 fun x0 => castDm (.int .i64) .imm d1 fun x1 => bindO (spec_l13Op N x0 x1) fun r => k [⟨.bool, .imm, r⟩] []) = some y := h
  clear h
  obtain ⟨x0, rfl, h1⟩ := castDm_eq h0
  obtain ⟨x1, rfl, h2⟩ := castDm_eq h1
  obtain ⟨r, e, h⟩ := bindO_some h2
  refine ⟨_, _, h, fun k' => ?_⟩
  show (castDm (.pair (.int .i64) (.pair (.int .i64) .unit)) .imm (⟨(.pair (.int .i64) (.pair (.int .i64) .unit)), .imm, x0⟩ : Dy) fun x0 => castDm (.int .i64) .imm (⟨(.int .i64), .imm, x1⟩ : Dy) fun x1 => bindO (spec_l13Op N x0 x1) fun r => k' [⟨.bool, .imm, r⟩] []) = _
  simp only [castDm_self]
  rw [e]
  rfl
noncomputable def spec_l13Takes.con (N : Nat) : Con := { modes := [.v], ptrs := [false, false], fn := fun ds k => match ds with | [d0] => castDm (.int .i64) .imm d0 fun x0 => bindO (spec_l13Takes N x0) fun r => k [⟨(.int .i64), .imm, r.1⟩, ⟨(.int .i64), .imm, r.2⟩] [] | _ => none }
noncomputable def spec_l13Takes.cfg (N : Nat) : Cfg := { ty := tys, keep := [], flt := [], elm := [(22, (.own .imm)), (24, (.own .imm)), (26, (.own .imm))], live := [], ord := [], con := [], loops := [], joins := [] }
theorem spec_l13Takes.cons (N : Nat) : ConsOk Try.prog (spec_l13Takes.cfg N).con := consOk_nil
theorem spec_l13Takes.ls (N : Nat) : LoopsOk Try.prog (spec_l13Takes.cfg N) (fnBody Try.f19) := loopsL (l := []) (by kernel_rfl) trivial
theorem spec_l13Takes.b (N : Nat) (x0 : den (.int .i64)) : body (spec_l13Takes.cfg N) N Try.f19 [.one] [.v] [(false, .imm), (false, .imm)] [⟨(.int .i64), .imm, x0⟩] (fun r i => some (r, i)) = bindO (spec_l13Takes N x0) fun r => some ([⟨(.int .i64), .imm, r.1⟩, ⟨(.int .i64), .imm, r.2⟩], []) := by
  show _ = bindF _ _
  conv => rhs; simp only [spec_l13Takes, bindF_ifB, bindF_bindO, bindF_pure, bindF_none, bindF_onSum]
  kernel_rfl
theorem spec_l13Takes.ok (N : Nat) : ConOk Try.prog 19 [.one] (spec_l13Takes.con N) := by
  refine conOk_mk (g := spec_l13Takes.cfg N) (N := N) (res := [(false, .imm), (false, .imm)]) tys_ok (spec_l13Takes.cons N) mixed Try.func19 (spec_l13Takes.ls N) rfl rfl ?_
  intro ds R k y h
  cases ds with
  | nil => exact none_some h
  | cons d0 ds =>
  cases ds with
  | cons _ _ => exact none_some h
  | nil =>
  have h0 : (castDm (.int .i64) .imm d0 fun x0 => bindO (spec_l13Takes N x0) fun r => k [⟨(.int .i64), .imm, r.1⟩, ⟨(.int .i64), .imm, r.2⟩] []) = some y := h
  clear h
  obtain ⟨x0, rfl, h1⟩ := castDm_eq h0
  exact con_fin (spec_l13Takes.b N x0) h1
theorem spec_l13Takes.det (N : Nat) : ConDet (spec_l13Takes.con N) := by
  intro ds R k y h
  cases ds with
  | nil => exact none_some h
  | cons d0 ds =>
  cases ds with
  | cons _ _ => exact none_some h
  | nil =>
  have h0 : (castDm (.int .i64) .imm d0 fun x0 => bindO (spec_l13Takes N x0) fun r => k [⟨(.int .i64), .imm, r.1⟩, ⟨(.int .i64), .imm, r.2⟩] []) = some y := h
  clear h
  obtain ⟨x0, rfl, h1⟩ := castDm_eq h0
  obtain ⟨r, e, h⟩ := bindO_some h1
  refine ⟨_, _, h, fun k' => ?_⟩
  show (castDm (.int .i64) .imm (⟨(.int .i64), .imm, x0⟩ : Dy) fun x0 => bindO (spec_l13Takes N x0) fun r => k' [⟨(.int .i64), .imm, r.1⟩, ⟨(.int .i64), .imm, r.2⟩] []) = _
  simp only [castDm_self]
  rw [e]
  rfl
def spec_l13Depths.sk4 : Skel := ⟨[.pv (.sl 37 (.pair (.int .i64) (.pair (.int .i64) .unit))), .dead, .dead, .dead, .pv (.int .i64), .ov 50 [], .pv (.int .i64), .dead, .dead, .dead, .dead, .dead, .dead, .dead, .dead, .dead, .dead, .dead, .dead, .dead, .dead, .dead, .dead, .dead, .dead, .dead, .dead, .dead, .dead, .dead, .dead, .dead, .dead, .dead, .dead, .dead, .dead, .dead, .dead, .dead, .dead, .dead, .dead, .dead, .dead, .dead, .dead, .dead, .dead, .dead, .dead, .dead, .dead, .dead, .dead, .dead, .dead, .dead, .dead, .dead, .dead, .dead, .dead, .dead, .dead, .dead, .dead, .dead, .dead, .dead, .dead, .dead, .dead, .dead, .dead, .dead, .dead, .dead, .dead, .dead, .dead, .dead, .dead, .dead, .dead, .dead, .dead, .dead, .dead, .dead, .dead, .dead, .dead, .dead, .dead, .dead, .dead, .dead, .dead, .dead, .dead, .dead, .dead, .dead, .dead, .dead, .dead, .dead, .dead, .dead, .dead, .dead, .dead, .dead, .dead, .dead, .dead, .dead, .dead, .dead, .dead, .dead, .dead, .dead, .dead, .dead, .dead, .dead, .dead, .dead, .dead, .dead, .dead, .dead, .dead, .dead, .dead, .dead, .dead, .dead, .dead, .dead, .dead, .dead, .dead], [⟨50, (.sl 2 (.int .i64)), (.own .imm), false, false⟩]⟩
def spec_l13Depths.xs4 : List XS := [⟨.exit 0, [0, 4, 5, 63, 64, 65, 66], ⟨[.pv (.sl 37 (.pair (.int .i64) (.pair (.int .i64) .unit))), .dead, .dead, .dead, .pv (.int .i64), .ov 50 [], .dead, .dead, .dead, .dead, .dead, .dead, .dead, .dead, .dead, .dead, .dead, .dead, .dead, .dead, .dead, .dead, .dead, .dead, .dead, .dead, .dead, .dead, .dead, .dead, .dead, .dead, .dead, .dead, .dead, .dead, .dead, .dead, .dead, .dead, .dead, .dead, .dead, .dead, .dead, .dead, .dead, .dead, .dead, .dead, .dead, .dead, .dead, .dead, .dead, .dead, .dead, .dead, .dead, .dead, .dead, .dead, .dead, .dead, .dead, .dead, .dead, .dead, .dead, .dead, .dead, .dead, .dead, .dead, .dead, .dead, .dead, .dead, .dead, .dead, .dead, .dead, .dead, .dead, .dead, .dead, .dead, .dead, .dead, .dead, .dead, .dead, .dead, .dead, .dead, .dead, .dead, .dead, .dead, .dead, .dead, .dead, .dead, .dead, .dead, .dead, .dead, .dead, .dead, .dead, .dead, .dead, .dead, .dead, .dead, .dead, .dead, .dead, .dead, .dead, .dead, .dead, .dead, .dead, .dead, .dead, .dead, .dead, .dead, .dead, .dead, .dead, .dead, .dead, .dead, .dead, .dead, .dead, .dead, .dead, .dead, .dead, .dead, .dead, .dead], [⟨50, (.sl 2 (.int .i64)), (.own .imm), false, false⟩]⟩⟩]
def spec_l13Depths.sk9 : Skel := ⟨[.pv (.sl 37 (.pair (.int .i64) (.pair (.int .i64) .unit))), .dead, .dead, .dead, .pv (.int .i64), .ov 50 [], .dead, .ov 51 [], .dead, .dead, .dead, .dead, .dead, .dead, .dead, .dead, .dead, .dead, .dead, .dead, .dead, .dead, .dead, .dead, .dead, .dead, .dead, .dead, .dead, .dead, .dead, .dead, .dead, .dead, .dead, .dead, .dead, .dead, .dead, .dead, .dead, .dead, .dead, .dead, .dead, .dead, .dead, .dead, .dead, .dead, .dead, .dead, .dead, .dead, .dead, .dead, .dead, .dead, .dead, .dead, .dead, .dead, .dead, .dead, .dead, .dead, .dead, .dead, .dead, .dead, .dead, .dead, .dead, .dead, .dead, .dead, .dead, .dead, .dead, .dead, .dead, .dead, .dead, .dead, .dead, .dead, .dead, .dead, .dead, .dead, .dead, .dead, .dead, .dead, .dead, .dead, .dead, .dead, .dead, .dead, .dead, .dead, .dead, .dead, .dead, .dead, .dead, .dead, .dead, .dead, .dead, .dead, .dead, .dead, .dead, .dead, .dead, .dead, .dead, .dead, .dead, .dead, .dead, .dead, .dead, .dead, .dead, .dead, .dead, .dead, .dead, .dead, .dead, .dead, .dead, .dead, .dead, .dead, .dead, .dead, .dead, .dead, .dead, .dead, .dead], [⟨50, (.sl 2 (.int .i64)), (.own .imm), false, false⟩, ⟨51, (.sl 2 (.int .i64)), (.own .imm), false, false⟩]⟩
def spec_l13Depths.xs9 : List XS := [⟨.exit 2, [4, 5], ⟨[.dead, .dead, .dead, .dead, .pv (.int .i64), .ov 50 [], .dead, .dead, .dead, .dead, .dead, .dead, .dead, .dead, .dead, .dead, .dead, .dead, .dead, .dead, .dead, .dead, .dead, .dead, .dead, .dead, .dead, .dead, .dead, .dead, .dead, .dead, .dead, .dead, .dead, .dead, .dead, .dead, .dead, .dead, .dead, .dead, .dead, .dead, .dead, .dead, .dead, .dead, .dead, .dead, .dead, .dead, .dead, .dead, .dead, .dead, .dead, .dead, .dead, .dead, .dead, .dead, .dead, .dead, .dead, .dead, .dead, .dead, .dead, .dead, .dead, .dead, .dead, .dead, .dead, .dead, .dead, .dead, .dead, .dead, .dead, .dead, .dead, .dead, .dead, .dead, .dead, .dead, .dead, .dead, .dead, .dead, .dead, .dead, .dead, .dead, .dead, .dead, .dead, .dead, .dead, .dead, .dead, .dead, .dead, .dead, .dead, .dead, .dead, .dead, .dead, .dead, .dead, .dead, .dead, .dead, .dead, .dead, .dead, .dead, .dead, .dead, .dead, .dead, .dead, .dead, .dead, .dead, .dead, .dead, .dead, .dead, .dead, .dead, .dead, .dead, .dead, .dead, .dead, .dead, .dead, .dead, .dead, .dead, .dead], [⟨50, (.sl 2 (.int .i64)), (.own .imm), false, false⟩]⟩⟩, ⟨.ret, [2, 3], ⟨[.dead, .dead, .ov 50 [], .pv .bool, .dead, .dead, .dead, .dead, .dead, .dead, .dead, .dead, .dead, .dead, .dead, .dead, .dead, .dead, .dead, .dead, .dead, .dead, .dead, .dead, .dead, .dead, .dead, .dead, .dead, .dead, .dead, .dead, .dead, .dead, .dead, .dead, .dead, .dead, .dead, .dead, .dead, .dead, .dead, .dead, .dead, .dead, .dead, .dead, .dead, .dead, .dead, .dead, .dead, .dead, .dead, .dead, .dead, .dead, .dead, .dead, .dead, .dead, .dead, .dead, .dead, .dead, .dead, .dead, .dead, .dead, .dead, .dead, .dead, .dead, .dead, .dead, .dead, .dead, .dead, .dead, .dead, .dead, .dead, .dead, .dead, .dead, .dead, .dead, .dead, .dead, .dead, .dead, .dead, .dead, .dead, .dead, .dead, .dead, .dead, .dead, .dead, .dead, .dead, .dead, .dead, .dead, .dead, .dead, .dead, .dead, .dead, .dead, .dead, .dead, .dead, .dead, .dead, .dead, .dead, .dead, .dead, .dead, .dead, .dead, .dead, .dead, .dead, .dead, .dead, .dead, .dead, .dead, .dead, .dead, .dead, .dead, .dead, .dead, .dead, .dead, .dead, .dead, .dead, .dead, .dead], [⟨50, (.sl 2 (.int .i64)), (.own .imm), false, false⟩]⟩⟩]
def spec_l13Depths.sk24 : Skel := ⟨[.pv (.sl 37 (.pair (.int .i64) (.pair (.int .i64) .unit))), .dead, .dead, .dead, .pv (.int .i64), .ov 50 [], .dead, .ov 51 [], .dead, .dead, .dead, .pv (.int .i64), .ov 52 [], .pv (.int .i64), .dead, .dead, .dead, .dead, .dead, .dead, .dead, .dead, .dead, .dead, .dead, .dead, .dead, .dead, .dead, .dead, .dead, .dead, .dead, .dead, .dead, .dead, .dead, .dead, .dead, .dead, .dead, .dead, .dead, .dead, .dead, .dead, .dead, .dead, .dead, .dead, .dead, .dead, .dead, .dead, .dead, .dead, .dead, .dead, .dead, .dead, .dead, .dead, .dead, .dead, .dead, .dead, .dead, .dead, .dead, .dead, .dead, .dead, .dead, .dead, .dead, .dead, .dead, .dead, .dead, .dead, .dead, .dead, .dead, .dead, .dead, .dead, .dead, .dead, .dead, .dead, .dead, .dead, .dead, .dead, .dead, .dead, .dead, .dead, .dead, .dead, .dead, .dead, .dead, .dead, .dead, .dead, .dead, .dead, .dead, .dead, .dead, .dead, .dead, .dead, .dead, .dead, .dead, .dead, .dead, .dead, .dead, .dead, .dead, .dead, .dead, .dead, .dead, .dead, .dead, .dead, .dead, .dead, .dead, .dead, .dead, .dead, .dead, .dead, .dead, .dead, .dead, .dead, .dead, .dead, .dead], [⟨50, (.sl 2 (.int .i64)), (.own .imm), false, false⟩, ⟨51, (.sl 2 (.int .i64)), (.own .imm), false, false⟩, ⟨52, (.sl 2 (.int .i64)), (.own .imm), false, false⟩]⟩
def spec_l13Depths.xs24 : List XS := [⟨.exit 4, [0, 4, 5, 7, 63, 64, 65, 66], ⟨[.pv (.sl 37 (.pair (.int .i64) (.pair (.int .i64) .unit))), .dead, .dead, .dead, .pv (.int .i64), .ov 50 [], .dead, .ov 51 [], .dead, .dead, .dead, .dead, .dead, .dead, .dead, .dead, .dead, .dead, .dead, .dead, .dead, .dead, .dead, .dead, .dead, .dead, .dead, .dead, .dead, .dead, .dead, .dead, .dead, .dead, .dead, .dead, .dead, .dead, .dead, .dead, .dead, .dead, .dead, .dead, .dead, .dead, .dead, .dead, .dead, .dead, .dead, .dead, .dead, .dead, .dead, .dead, .dead, .dead, .dead, .dead, .dead, .dead, .dead, .dead, .dead, .dead, .dead, .dead, .dead, .dead, .dead, .dead, .dead, .dead, .dead, .dead, .dead, .dead, .dead, .dead, .dead, .dead, .dead, .dead, .dead, .dead, .dead, .dead, .dead, .dead, .dead, .dead, .dead, .dead, .dead, .dead, .dead, .dead, .dead, .dead, .dead, .dead, .dead, .dead, .dead, .dead, .dead, .dead, .dead, .dead, .dead, .dead, .dead, .dead, .dead, .dead, .dead, .dead, .dead, .dead, .dead, .dead, .dead, .dead, .dead, .dead, .dead, .dead, .dead, .dead, .dead, .dead, .dead, .dead, .dead, .dead, .dead, .dead, .dead, .dead, .dead, .dead, .dead, .dead, .dead], [⟨50, (.sl 2 (.int .i64)), (.own .imm), false, false⟩, ⟨51, (.sl 2 (.int .i64)), (.own .imm), false, false⟩]⟩⟩, ⟨.ret, [2, 3], ⟨[.dead, .dead, .ov 50 [], .pv .bool, .dead, .dead, .dead, .dead, .dead, .dead, .dead, .dead, .dead, .dead, .dead, .dead, .dead, .dead, .dead, .dead, .dead, .dead, .dead, .dead, .dead, .dead, .dead, .dead, .dead, .dead, .dead, .dead, .dead, .dead, .dead, .dead, .dead, .dead, .dead, .dead, .dead, .dead, .dead, .dead, .dead, .dead, .dead, .dead, .dead, .dead, .dead, .dead, .dead, .dead, .dead, .dead, .dead, .dead, .dead, .dead, .dead, .dead, .dead, .dead, .dead, .dead, .dead, .dead, .dead, .dead, .dead, .dead, .dead, .dead, .dead, .dead, .dead, .dead, .dead, .dead, .dead, .dead, .dead, .dead, .dead, .dead, .dead, .dead, .dead, .dead, .dead, .dead, .dead, .dead, .dead, .dead, .dead, .dead, .dead, .dead, .dead, .dead, .dead, .dead, .dead, .dead, .dead, .dead, .dead, .dead, .dead, .dead, .dead, .dead, .dead, .dead, .dead, .dead, .dead, .dead, .dead, .dead, .dead, .dead, .dead, .dead, .dead, .dead, .dead, .dead, .dead, .dead, .dead, .dead, .dead, .dead, .dead, .dead, .dead, .dead, .dead, .dead, .dead, .dead, .dead], [⟨50, (.sl 2 (.int .i64)), (.own .imm), false, false⟩]⟩⟩]
noncomputable def spec_l13Depths.con (N : Nat) : Con := { modes := [.v], ptrs := [false, false], fn := fun ds k => match ds with | [d0] => castDm (.sl 37 (.pair (.int .i64) (.pair (.int .i64) .unit))) .imm d0 fun x0 => bindO (spec_l13Depths N x0) fun r => k [⟨(.sl 2 (.int .i64)), (.own .imm), r.1⟩, ⟨.bool, .imm, r.2⟩] [] | _ => none }
noncomputable def spec_l13Depths.cfg (N : Nat) : Cfg := { ty := tys, keep := [51], flt := [], elm := [(22, (.own .imm)), (24, (.own .imm)), (26, (.own .imm))], live := [(24, [0, 4, 5, 7, 11, 12, 13, 63, 64, 65, 66]), (9, [0, 4, 5, 7, 63, 64, 65, 66]), (4, [0, 4, 5, 6, 63, 64, 65, 66])], ord := [(31, [0, 1, 2, 3, 4, 5, 6, 7])], con := [((19, [.one]), spec_l13Takes.con N)], loops := [(4, loopCon N spec_l13Depths.sk4 spec_l13Depths.xs4 (fun {R} => spec_l13Depths.l4 (R := R) N)), (9, loopCon N spec_l13Depths.sk9 spec_l13Depths.xs9 (fun {R} => spec_l13Depths.l9 (R := R) N)), (24, loopCon N spec_l13Depths.sk24 spec_l13Depths.xs24 (fun {R} => spec_l13Depths.l24 (R := R) N))], joins := [(25, [⟨.normal, [0, 4, 5, 7, 11, 12, 13, 63, 64, 65, 66], ⟨[.pv (.sl 37 (.pair (.int .i64) (.pair (.int .i64) .unit))), .dead, .dead, .dead, .pv (.int .i64), .ov 50 [], .dead, .ov 51 [], .dead, .dead, .dead, .pv (.int .i64), .ov 52 [], .pv (.int .i64), .dead, .dead, .dead, .dead, .dead, .dead, .dead, .dead, .dead, .dead, .dead, .dead, .dead, .dead, .dead, .dead, .dead, .dead, .dead, .dead, .dead, .dead, .dead, .dead, .dead, .dead, .dead, .dead, .dead, .dead, .dead, .dead, .dead, .dead, .dead, .dead, .dead, .dead, .dead, .dead, .dead, .dead, .dead, .dead, .dead, .dead, .dead, .dead, .dead, .dead, .dead, .dead, .dead, .dead, .dead, .dead, .dead, .dead, .dead, .dead, .dead, .dead, .dead, .dead, .dead, .dead, .dead, .dead, .dead, .dead, .dead, .dead, .dead, .dead, .dead, .dead, .dead, .dead, .dead, .dead, .dead, .dead, .dead, .dead, .dead, .dead, .dead, .dead, .dead, .dead, .dead, .dead, .dead, .dead, .dead, .dead, .dead, .dead, .dead, .dead, .dead, .dead, .dead, .dead, .dead, .dead, .dead, .dead, .dead, .dead, .dead, .dead, .dead, .dead, .dead, .dead, .dead, .dead, .dead, .dead, .dead, .dead, .dead, .dead, .dead, .dead, .dead, .dead, .dead, .dead, .dead], [⟨50, (.sl 2 (.int .i64)), (.own .imm), false, false⟩, ⟨51, (.sl 2 (.int .i64)), (.own .imm), false, false⟩, ⟨52, (.sl 2 (.int .i64)), (.own .imm), false, false⟩]⟩⟩, ⟨.ret, [2, 3], ⟨[.dead, .dead, .ov 50 [], .pv .bool, .dead, .dead, .dead, .dead, .dead, .dead, .dead, .dead, .dead, .dead, .dead, .dead, .dead, .dead, .dead, .dead, .dead, .dead, .dead, .dead, .dead, .dead, .dead, .dead, .dead, .dead, .dead, .dead, .dead, .dead, .dead, .dead, .dead, .dead, .dead, .dead, .dead, .dead, .dead, .dead, .dead, .dead, .dead, .dead, .dead, .dead, .dead, .dead, .dead, .dead, .dead, .dead, .dead, .dead, .dead, .dead, .dead, .dead, .dead, .dead, .dead, .dead, .dead, .dead, .dead, .dead, .dead, .dead, .dead, .dead, .dead, .dead, .dead, .dead, .dead, .dead, .dead, .dead, .dead, .dead, .dead, .dead, .dead, .dead, .dead, .dead, .dead, .dead, .dead, .dead, .dead, .dead, .dead, .dead, .dead, .dead, .dead, .dead, .dead, .dead, .dead, .dead, .dead, .dead, .dead, .dead, .dead, .dead, .dead, .dead, .dead, .dead, .dead, .dead, .dead, .dead, .dead, .dead, .dead, .dead, .dead, .dead, .dead, .dead, .dead, .dead, .dead, .dead, .dead, .dead, .dead, .dead, .dead, .dead, .dead, .dead, .dead, .dead, .dead, .dead, .dead], [⟨50, (.sl 2 (.int .i64)), (.own .imm), false, false⟩]⟩⟩])] }
theorem spec_l13Depths.cons (N : Nat) : ConsOk Try.prog (spec_l13Depths.cfg N).con := (consOk_cons (hb19) (spec_l13Takes.ok N) (spec_l13Takes.det N) consOk_nil)
theorem spec_l13Depths.h24 {R : Type} (N : Nat) (d : spec_l13Depths.sk24.D) (kn : spec_l13Depths.sk24.D → Option R) (kx : XD spec_l13Depths.xs24 → Option R) : roundK (spec_l13Depths.cfg N) N (nthLoop (fnBody Try.f14) 2) spec_l13Depths.sk24 spec_l13Depths.xs24 d kn kx = spec_l13Depths.l24 N d kn kx := by kernel_rfl
theorem spec_l13Depths.i24 (N : Nat) : LoopsOk Try.prog (spec_l13Depths.cfg N) (nthLoop (fnBody Try.f14) 2) := loopsL (l := []) (by kernel_rfl) trivial
theorem spec_l13Depths.o24 (N : Nat) : LoopOk Try.prog (nthLoop (fnBody Try.f14) 2) (loopCon N spec_l13Depths.sk24 spec_l13Depths.xs24 (fun {R} => spec_l13Depths.l24 (R := R) N)) := loop_ok (g := spec_l13Depths.cfg N) tys_ok (spec_l13Depths.cons N) mixed (spec_l13Depths.i24 N) (fun d kn kx => spec_l13Depths.h24 N d kn kx)
theorem spec_l13Depths.h9 {R : Type} (N : Nat) (d : spec_l13Depths.sk9.D) (kn : spec_l13Depths.sk9.D → Option R) (kx : XD spec_l13Depths.xs9 → Option R) : roundK (spec_l13Depths.cfg N) N (nthLoop (fnBody Try.f14) 1) spec_l13Depths.sk9 spec_l13Depths.xs9 d kn kx = spec_l13Depths.l9 N d kn kx := by kernel_rfl
theorem spec_l13Depths.i9 (N : Nat) : LoopsOk Try.prog (spec_l13Depths.cfg N) (nthLoop (fnBody Try.f14) 1) := loopsL (l := [nthLoop (fnBody Try.f14) 2]) (by kernel_rfl) ⟨loopOne (L0 := loopCon N spec_l13Depths.sk24 spec_l13Depths.xs24 (fun {R} => spec_l13Depths.l24 (R := R) N)) (id := 24) (by kernel_rfl) (by kernel_rfl) (spec_l13Depths.o24 N), trivial⟩
theorem spec_l13Depths.o9 (N : Nat) : LoopOk Try.prog (nthLoop (fnBody Try.f14) 1) (loopCon N spec_l13Depths.sk9 spec_l13Depths.xs9 (fun {R} => spec_l13Depths.l9 (R := R) N)) := loop_ok (g := spec_l13Depths.cfg N) tys_ok (spec_l13Depths.cons N) mixed (spec_l13Depths.i9 N) (fun d kn kx => spec_l13Depths.h9 N d kn kx)
theorem spec_l13Depths.h4 {R : Type} (N : Nat) (d : spec_l13Depths.sk4.D) (kn : spec_l13Depths.sk4.D → Option R) (kx : XD spec_l13Depths.xs4 → Option R) : roundK (spec_l13Depths.cfg N) N (nthLoop (fnBody Try.f14) 0) spec_l13Depths.sk4 spec_l13Depths.xs4 d kn kx = spec_l13Depths.l4 N d kn kx := by kernel_rfl
theorem spec_l13Depths.i4 (N : Nat) : LoopsOk Try.prog (spec_l13Depths.cfg N) (nthLoop (fnBody Try.f14) 0) := loopsL (l := []) (by kernel_rfl) trivial
theorem spec_l13Depths.o4 (N : Nat) : LoopOk Try.prog (nthLoop (fnBody Try.f14) 0) (loopCon N spec_l13Depths.sk4 spec_l13Depths.xs4 (fun {R} => spec_l13Depths.l4 (R := R) N)) := loop_ok (g := spec_l13Depths.cfg N) tys_ok (spec_l13Depths.cons N) mixed (spec_l13Depths.i4 N) (fun d kn kx => spec_l13Depths.h4 N d kn kx)
theorem spec_l13Depths.ls (N : Nat) : LoopsOk Try.prog (spec_l13Depths.cfg N) (fnBody Try.f14) := loopsL (l := [nthLoop (fnBody Try.f14) 0, nthLoop (fnBody Try.f14) 1, nthLoop (fnBody Try.f14) 2]) (by kernel_rfl) ⟨loopOne (L0 := loopCon N spec_l13Depths.sk4 spec_l13Depths.xs4 (fun {R} => spec_l13Depths.l4 (R := R) N)) (id := 4) (by kernel_rfl) (by kernel_rfl) (spec_l13Depths.o4 N), ⟨loopOne (L0 := loopCon N spec_l13Depths.sk9 spec_l13Depths.xs9 (fun {R} => spec_l13Depths.l9 (R := R) N)) (id := 9) (by kernel_rfl) (by kernel_rfl) (spec_l13Depths.o9 N), ⟨loopOne (L0 := loopCon N spec_l13Depths.sk24 spec_l13Depths.xs24 (fun {R} => spec_l13Depths.l24 (R := R) N)) (id := 24) (by kernel_rfl) (by kernel_rfl) (spec_l13Depths.o24 N), trivial⟩⟩⟩
theorem spec_l13Depths.q24 {R R' : Type} {N n : Nat} {d} {k} {g : R → Option R'} : bindF (loopP (spec_l13Depths.l24 N) n d k) g = loopP (spec_l13Depths.l24 N) n d fun e => bindF (k e) g := bindF_loopP (fun d kn kx => by simp only [spec_l13Depths.l24, bindF_ifB, bindF_bindO, bindF_pure, bindF_none, bindF_onSum]) n d k
theorem spec_l13Depths.q9 {R R' : Type} {N n : Nat} {d} {k} {g : R → Option R'} : bindF (loopP (spec_l13Depths.l9 N) n d k) g = loopP (spec_l13Depths.l9 N) n d fun e => bindF (k e) g := bindF_loopP (fun d kn kx => by simp only [spec_l13Depths.l9, bindF_ifB, bindF_bindO, bindF_pure, bindF_none, bindF_onSum, spec_l13Depths.q24]) n d k
theorem spec_l13Depths.q4 {R R' : Type} {N n : Nat} {d} {k} {g : R → Option R'} : bindF (loopP (spec_l13Depths.l4 N) n d k) g = loopP (spec_l13Depths.l4 N) n d fun e => bindF (k e) g := bindF_loopP (fun d kn kx => by simp only [spec_l13Depths.l4, bindF_ifB, bindF_bindO, bindF_pure, bindF_none, bindF_onSum]) n d k
theorem spec_l13Depths.b (N : Nat) (x0 : den (.sl 37 (.pair (.int .i64) (.pair (.int .i64) .unit)))) : body (spec_l13Depths.cfg N) N Try.f14 [.one] [.v] [(false, (.own .imm)), (false, .imm)] [⟨(.sl 37 (.pair (.int .i64) (.pair (.int .i64) .unit))), .imm, x0⟩] (fun r i => some (r, i)) = bindO (spec_l13Depths N x0) fun r => some ([⟨(.sl 2 (.int .i64)), (.own .imm), r.1⟩, ⟨.bool, .imm, r.2⟩], []) := by
  show _ = bindF _ _
  conv => rhs; simp only [spec_l13Depths, bindF_ifB, bindF_bindO, bindF_pure, bindF_none, bindF_onSum, spec_l13Depths.q4, spec_l13Depths.q9, spec_l13Depths.q24]
  kernel_rfl
theorem spec_l13Depths.ok (N : Nat) : ConOk Try.prog 14 [.one] (spec_l13Depths.con N) := by
  refine conOk_mk (g := spec_l13Depths.cfg N) (N := N) (res := [(false, (.own .imm)), (false, .imm)]) tys_ok (spec_l13Depths.cons N) mixed Try.func14 (spec_l13Depths.ls N) rfl rfl ?_
  intro ds R k y h
  cases ds with
  | nil => exact none_some h
  | cons d0 ds =>
  cases ds with
  | cons _ _ => exact none_some h
  | nil =>
  have h0 : (castDm (.sl 37 (.pair (.int .i64) (.pair (.int .i64) .unit))) .imm d0 fun x0 => bindO (spec_l13Depths N x0) fun r => k [⟨(.sl 2 (.int .i64)), (.own .imm), r.1⟩, ⟨.bool, .imm, r.2⟩] []) = some y := h
  clear h
  obtain ⟨x0, rfl, h1⟩ := castDm_eq h0
  exact con_fin (spec_l13Depths.b N x0) h1
theorem spec_l13Depths.det (N : Nat) : ConDet (spec_l13Depths.con N) := by
  intro ds R k y h
  cases ds with
  | nil => exact none_some h
  | cons d0 ds =>
  cases ds with
  | cons _ _ => exact none_some h
  | nil =>
  have h0 : (castDm (.sl 37 (.pair (.int .i64) (.pair (.int .i64) .unit))) .imm d0 fun x0 => bindO (spec_l13Depths N x0) fun r => k [⟨(.sl 2 (.int .i64)), (.own .imm), r.1⟩, ⟨.bool, .imm, r.2⟩] []) = some y := h
  clear h
  obtain ⟨x0, rfl, h1⟩ := castDm_eq h0
  obtain ⟨r, e, h⟩ := bindO_some h1
  refine ⟨_, _, h, fun k' => ?_⟩
  show (castDm (.sl 37 (.pair (.int .i64) (.pair (.int .i64) .unit))) .imm (⟨(.sl 37 (.pair (.int .i64) (.pair (.int .i64) .unit))), .imm, x0⟩ : Dy) fun x0 => bindO (spec_l13Depths N x0) fun r => k' [⟨(.sl 2 (.int .i64)), (.own .imm), r.1⟩, ⟨.bool, .imm, r.2⟩] []) = _
  simp only [castDm_self]
  rw [e]
  rfl
def spec_CodeRight.sk4 : Skel := ⟨[.pv (.sl 37 (.pair (.int .i64) (.pair (.int .i64) .unit))), .dead, .dead, .pv (.int .i64), .dead, .dead, .dead, .dead, .dead, .dead, .dead, .dead, .dead, .dead, .dead, .dead, .dead, .dead, .dead, .dead, .dead, .dead, .dead, .dead, .dead, .dead, .dead, .dead, .dead], []⟩
def spec_CodeRight.xs4 : List XS := [⟨.exit 0, [0], ⟨[.pv (.sl 37 (.pair (.int .i64) (.pair (.int .i64) .unit))), .dead, .dead, .dead, .dead, .dead, .dead, .dead, .dead, .dead, .dead, .dead, .dead, .dead, .dead, .dead, .dead, .dead, .dead, .dead, .dead, .dead, .dead, .dead, .dead, .dead, .dead, .dead, .dead], []⟩⟩, ⟨.ret, [2], ⟨[.dead, .dead, .pv .bool, .dead, .dead, .dead, .dead, .dead, .dead, .dead, .dead, .dead, .dead, .dead, .dead, .dead, .dead, .dead, .dead, .dead, .dead, .dead, .dead, .dead, .dead, .dead, .dead, .dead, .dead], []⟩⟩]
noncomputable def spec_CodeRight.con (N : Nat) : Con := { modes := [.v], ptrs := [false], fn := fun ds k => match ds with | [d0] => castDm (.sl 37 (.pair (.int .i64) (.pair (.int .i64) .unit))) .imm d0 fun x0 => bindO (spec_CodeRight N x0) fun r => k [⟨.bool, .imm, r⟩] [] | _ => none }
noncomputable def spec_CodeRight.cfg (N : Nat) : Cfg := { ty := tys, keep := [21, 25], flt := [], elm := [(22, (.own .imm)), (24, (.own .imm)), (26, (.own .imm))], live := [(4, [0, 3])], ord := [], con := [((18, [.one, .one]), spec_l13Op.con N), ((14, [.one]), spec_l13Depths.con N)], loops := [(4, loopCon N spec_CodeRight.sk4 spec_CodeRight.xs4 (fun {R} => spec_CodeRight.l4 (R := R) N))], joins := [] }
theorem spec_CodeRight.cons (N : Nat) : ConsOk Try.prog (spec_CodeRight.cfg N).con := (consOk_cons (hb18) (spec_l13Op.ok N) (spec_l13Op.det N) (consOk_cons (hb14) (spec_l13Depths.ok N) (spec_l13Depths.det N) consOk_nil))
theorem spec_CodeRight.h4 {R : Type} (N : Nat) (d : spec_CodeRight.sk4.D) (kn : spec_CodeRight.sk4.D → Option R) (kx : XD spec_CodeRight.xs4 → Option R) : roundK (spec_CodeRight.cfg N) N (nthLoop (fnBody Try.f13) 0) spec_CodeRight.sk4 spec_CodeRight.xs4 d kn kx = spec_CodeRight.l4 N d kn kx := by kernel_rfl
theorem spec_CodeRight.i4 (N : Nat) : LoopsOk Try.prog (spec_CodeRight.cfg N) (nthLoop (fnBody Try.f13) 0) := loopsL (l := []) (by kernel_rfl) trivial
theorem spec_CodeRight.o4 (N : Nat) : LoopOk Try.prog (nthLoop (fnBody Try.f13) 0) (loopCon N spec_CodeRight.sk4 spec_CodeRight.xs4 (fun {R} => spec_CodeRight.l4 (R := R) N)) := loop_ok (g := spec_CodeRight.cfg N) tys_ok (spec_CodeRight.cons N) mixed (spec_CodeRight.i4 N) (fun d kn kx => spec_CodeRight.h4 N d kn kx)
theorem spec_CodeRight.ls (N : Nat) : LoopsOk Try.prog (spec_CodeRight.cfg N) (fnBody Try.f13) := loopsL (l := [nthLoop (fnBody Try.f13) 0]) (by kernel_rfl) ⟨loopOne (L0 := loopCon N spec_CodeRight.sk4 spec_CodeRight.xs4 (fun {R} => spec_CodeRight.l4 (R := R) N)) (id := 4) (by kernel_rfl) (by kernel_rfl) (spec_CodeRight.o4 N), trivial⟩
theorem spec_CodeRight.q4 {R R' : Type} {N n : Nat} {d} {k} {g : R → Option R'} : bindF (loopP (spec_CodeRight.l4 N) n d k) g = loopP (spec_CodeRight.l4 N) n d fun e => bindF (k e) g := bindF_loopP (fun d kn kx => by simp only [spec_CodeRight.l4, bindF_ifB, bindF_bindO, bindF_pure, bindF_none, bindF_onSum]) n d k
theorem spec_CodeRight.b (N : Nat) (x0 : den (.sl 37 (.pair (.int .i64) (.pair (.int .i64) .unit)))) : body (spec_CodeRight.cfg N) N Try.f13 [.one] [.v] [(false, .imm)] [⟨(.sl 37 (.pair (.int .i64) (.pair (.int .i64) .unit))), .imm, x0⟩] (fun r i => some (r, i)) = bindO (spec_CodeRight N x0) fun r => some ([⟨.bool, .imm, r⟩], []) := by
  show _ = bindF _ _
  conv => rhs; simp only [spec_CodeRight, bindF_ifB, bindF_bindO, bindF_pure, bindF_none, bindF_onSum, spec_CodeRight.q4]
  kernel_rfl
theorem spec_CodeRight.ok (N : Nat) : ConOk Try.prog 13 [.one] (spec_CodeRight.con N) := by
  refine conOk_mk (g := spec_CodeRight.cfg N) (N := N) (res := [(false, .imm)]) tys_ok (spec_CodeRight.cons N) mixed Try.func13 (spec_CodeRight.ls N) rfl rfl ?_
  intro ds R k y h
  cases ds with
  | nil => exact none_some h
  | cons d0 ds =>
  cases ds with
  | cons _ _ => exact none_some h
  | nil =>
  have h0 : (castDm (.sl 37 (.pair (.int .i64) (.pair (.int .i64) .unit))) .imm d0 fun x0 => bindO (spec_CodeRight N x0) fun r => k [⟨.bool, .imm, r⟩] []) = some y := h
  clear h
  obtain ⟨x0, rfl, h1⟩ := castDm_eq h0
  exact con_fin (spec_CodeRight.b N x0) h1
theorem spec_CodeRight.det (N : Nat) : ConDet (spec_CodeRight.con N) := by
  intro ds R k y h
  cases ds with
  | nil => exact none_some h
  | cons d0 ds =>
  cases ds with
  | cons _ _ => exact none_some h
  | nil =>
  have h0 : (castDm (.sl 37 (.pair (.int .i64) (.pair (.int .i64) .unit))) .imm d0 fun x0 => bindO (spec_CodeRight N x0) fun r => k [⟨.bool, .imm, r⟩] []) = some y := h
  clear h
  obtain ⟨x0, rfl, h1⟩ := castDm_eq h0
  obtain ⟨r, e, h⟩ := bindO_some h1
  refine ⟨_, _, h, fun k' => ?_⟩
  show (castDm (.sl 37 (.pair (.int .i64) (.pair (.int .i64) .unit))) .imm (⟨(.sl 37 (.pair (.int .i64) (.pair (.int .i64) .unit))), .imm, x0⟩ : Dy) fun x0 => bindO (spec_CodeRight N x0) fun r => k' [⟨.bool, .imm, r⟩] []) = _
  simp only [castDm_self]
  rw [e]
  rfl
noncomputable def spec_CodeDepths.con (N : Nat) : Con := { modes := [.v], ptrs := [false], fn := fun ds k => match ds with | [d0] => castDm (.sl 37 (.pair (.int .i64) (.pair (.int .i64) .unit))) .imm d0 fun x0 => bindO (spec_CodeDepths N x0) fun r => k [⟨(.sl 2 (.int .i64)), (.own .imm), r⟩] [] | _ => none }
noncomputable def spec_CodeDepths.cfg (N : Nat) : Cfg := { ty := tys, keep := [6, 11], flt := [], elm := [(22, (.own .imm)), (24, (.own .imm)), (26, (.own .imm))], live := [], ord := [], con := [((13, [.one]), spec_CodeRight.con N), ((14, [.one]), spec_l13Depths.con N)], loops := [], joins := [] }
theorem spec_CodeDepths.cons (N : Nat) : ConsOk Try.prog (spec_CodeDepths.cfg N).con := (consOk_cons (hb13) (spec_CodeRight.ok N) (spec_CodeRight.det N) (consOk_cons (hb14) (spec_l13Depths.ok N) (spec_l13Depths.det N) consOk_nil))
theorem spec_CodeDepths.ls (N : Nat) : LoopsOk Try.prog (spec_CodeDepths.cfg N) (fnBody Try.f5) := loopsL (l := []) (by kernel_rfl) trivial
theorem spec_CodeDepths.b (N : Nat) (x0 : den (.sl 37 (.pair (.int .i64) (.pair (.int .i64) .unit)))) : body (spec_CodeDepths.cfg N) N Try.f5 [.one] [.v] [(false, (.own .imm))] [⟨(.sl 37 (.pair (.int .i64) (.pair (.int .i64) .unit))), .imm, x0⟩] (fun r i => some (r, i)) = bindO (spec_CodeDepths N x0) fun r => some ([⟨(.sl 2 (.int .i64)), (.own .imm), r⟩], []) := by
  show _ = bindF _ _
  conv => rhs; simp only [spec_CodeDepths, bindF_ifB, bindF_bindO, bindF_pure, bindF_none, bindF_onSum]
  kernel_rfl
theorem spec_CodeDepths.ok (N : Nat) : ConOk Try.prog 5 [.one] (spec_CodeDepths.con N) := by
  refine conOk_mk (g := spec_CodeDepths.cfg N) (N := N) (res := [(false, (.own .imm))]) tys_ok (spec_CodeDepths.cons N) mixed Try.func5 (spec_CodeDepths.ls N) rfl rfl ?_
  intro ds R k y h
  cases ds with
  | nil => exact none_some h
  | cons d0 ds =>
  cases ds with
  | cons _ _ => exact none_some h
  | nil =>
  have h0 : (castDm (.sl 37 (.pair (.int .i64) (.pair (.int .i64) .unit))) .imm d0 fun x0 => bindO (spec_CodeDepths N x0) fun r => k [⟨(.sl 2 (.int .i64)), (.own .imm), r⟩] []) = some y := h
  clear h
  obtain ⟨x0, rfl, h1⟩ := castDm_eq h0
  exact con_fin (spec_CodeDepths.b N x0) h1
theorem spec_CodeDepths.det (N : Nat) : ConDet (spec_CodeDepths.con N) := by
  intro ds R k y h
  cases ds with
  | nil => exact none_some h
  | cons d0 ds =>
  cases ds with
  | cons _ _ => exact none_some h
  | nil =>
  have h0 : (castDm (.sl 37 (.pair (.int .i64) (.pair (.int .i64) .unit))) .imm d0 fun x0 => bindO (spec_CodeDepths N x0) fun r => k [⟨(.sl 2 (.int .i64)), (.own .imm), r⟩] []) = some y := h
  clear h
  obtain ⟨x0, rfl, h1⟩ := castDm_eq h0
  obtain ⟨r, e, h⟩ := bindO_some h1
  refine ⟨_, _, h, fun k' => ?_⟩
  show (castDm (.sl 37 (.pair (.int .i64) (.pair (.int .i64) .unit))) .imm (⟨(.sl 37 (.pair (.int .i64) (.pair (.int .i64) .unit))), .imm, x0⟩ : Dy) fun x0 => bindO (spec_CodeDepths N x0) fun r => k' [⟨(.sl 2 (.int .i64)), (.own .imm), r⟩] []) = _
  simp only [castDm_self]
  rw [e]
  rfl
noncomputable def impl_size_Simpl_Op.con (N : Nat) : Con := { modes := [.v], ptrs := [false], fn := fun ds k => match ds with | [d0] => castDm (.sl 37 (.pair (.int .i64) (.pair (.int .i64) .unit))) .imm d0 fun x0 => bindO (impl_size_Simpl_Op N x0) fun r => k [⟨(.int .i64), .imm, r⟩] [] | _ => none }
noncomputable def impl_size_Simpl_Op.cfg (N : Nat) : Cfg := { ty := tys, keep := [], flt := [], elm := [(22, (.own .imm)), (24, (.own .imm)), (26, (.own .imm))], live := [], ord := [], con := [], loops := [], joins := [] }
theorem impl_size_Simpl_Op.cons (N : Nat) : ConsOk Try.prog (impl_size_Simpl_Op.cfg N).con := consOk_nil
theorem impl_size_Simpl_Op.ls (N : Nat) : LoopsOk Try.prog (impl_size_Simpl_Op.cfg N) (fnBody Try.f20) := loopsL (l := []) (by kernel_rfl) trivial
theorem impl_size_Simpl_Op.b (N : Nat) (x0 : den (.sl 37 (.pair (.int .i64) (.pair (.int .i64) .unit)))) : body (impl_size_Simpl_Op.cfg N) N Try.f20 [.one] [.v] [(false, .imm)] [⟨(.sl 37 (.pair (.int .i64) (.pair (.int .i64) .unit))), .imm, x0⟩] (fun r i => some (r, i)) = bindO (impl_size_Simpl_Op N x0) fun r => some ([⟨(.int .i64), .imm, r⟩], []) := by
  show _ = bindF _ _
  conv => rhs; simp only [impl_size_Simpl_Op, bindF_ifB, bindF_bindO, bindF_pure, bindF_none, bindF_onSum]
  kernel_rfl
theorem impl_size_Simpl_Op.ok (N : Nat) : ConOk Try.prog 20 [.one] (impl_size_Simpl_Op.con N) := by
  refine conOk_mk (g := impl_size_Simpl_Op.cfg N) (N := N) (res := [(false, .imm)]) tys_ok (impl_size_Simpl_Op.cons N) mixed Try.func20 (impl_size_Simpl_Op.ls N) rfl rfl ?_
  intro ds R k y h
  cases ds with
  | nil => exact none_some h
  | cons d0 ds =>
  cases ds with
  | cons _ _ => exact none_some h
  | nil =>
  have h0 : (castDm (.sl 37 (.pair (.int .i64) (.pair (.int .i64) .unit))) .imm d0 fun x0 => bindO (impl_size_Simpl_Op N x0) fun r => k [⟨(.int .i64), .imm, r⟩] []) = some y := h
  clear h
  obtain ⟨x0, rfl, h1⟩ := castDm_eq h0
  exact con_fin (impl_size_Simpl_Op.b N x0) h1
theorem impl_size_Simpl_Op.det (N : Nat) : ConDet (impl_size_Simpl_Op.con N) := by
  intro ds R k y h
  cases ds with
  | nil => exact none_some h
  | cons d0 ds =>
  cases ds with
  | cons _ _ => exact none_some h
  | nil =>
  have h0 : (castDm (.sl 37 (.pair (.int .i64) (.pair (.int .i64) .unit))) .imm d0 fun x0 => bindO (impl_size_Simpl_Op N x0) fun r => k [⟨(.int .i64), .imm, r⟩] []) = some y := h
  clear h
  obtain ⟨x0, rfl, h1⟩ := castDm_eq h0
  obtain ⟨r, e, h⟩ := bindO_some h1
  refine ⟨_, _, h, fun k' => ?_⟩
  show (castDm (.sl 37 (.pair (.int .i64) (.pair (.int .i64) .unit))) .imm (⟨(.sl 37 (.pair (.int .i64) (.pair (.int .i64) .unit))), .imm, x0⟩ : Dy) fun x0 => bindO (impl_size_Simpl_Op N x0) fun r => k' [⟨(.int .i64), .imm, r⟩] []) = _
  simp only [castDm_self]
  rw [e]
  rfl
noncomputable def impl_within.con (N : Nat) : Con := { modes := [.v, .v, .v], ptrs := [false], fn := fun ds k => match ds with | [d0, d1, d2] => castDm (.int .i64) .imm d0 fun x0 => castDm (.int .i64) .imm d1 fun x1 => castDm (.int .i64) .imm d2 fun x2 => bindO (impl_within N x0 x1 x2) fun r => k [⟨.bool, .imm, r⟩] [] | _ => none }
noncomputable def impl_within.cfg (N : Nat) : Cfg := { ty := tys, keep := [], flt := [], elm := [(22, (.own .imm)), (24, (.own .imm)), (26, (.own .imm))], live := [], ord := [], con := [], loops := [], joins := [] }
theorem impl_within.cons (N : Nat) : ConsOk Try.prog (impl_within.cfg N).con := consOk_nil
theorem impl_within.ls (N : Nat) : LoopsOk Try.prog (impl_within.cfg N) (fnBody Try.f27) := loopsL (l := []) (by kernel_rfl) trivial
theorem impl_within.b (N : Nat) (x0 : den (.int .i64)) (x1 : den (.int .i64)) (x2 : den (.int .i64)) : body (impl_within.cfg N) N Try.f27 [.one, .one, .one] [.v, .v, .v] [(false, .imm)] [⟨(.int .i64), .imm, x0⟩, ⟨(.int .i64), .imm, x1⟩, ⟨(.int .i64), .imm, x2⟩] (fun r i => some (r, i)) = bindO (impl_within N x0 x1 x2) fun r => some ([⟨.bool, .imm, r⟩], []) := by
  show _ = bindF _ _
  conv => rhs; simp only [impl_within, bindF_ifB, bindF_bindO, bindF_pure, bindF_none, bindF_onSum]
  kernel_rfl
theorem impl_within.ok (N : Nat) : ConOk Try.prog 27 [.one, .one, .one] (impl_within.con N) := by
  refine conOk_mk (g := impl_within.cfg N) (N := N) (res := [(false, .imm)]) tys_ok (impl_within.cons N) mixed Try.func27 (impl_within.ls N) rfl rfl ?_
  intro ds R k y h
  cases ds with
  | nil => exact none_some h
  | cons d0 ds =>
  cases ds with
  | nil => exact none_some h
  | cons d1 ds =>
  cases ds with
  | nil => exact none_some h
  | cons d2 ds =>
  cases ds with
  | cons _ _ => exact none_some h
  | nil =>
  have h0 : (castDm (.int .i64) .imm d0 fun x0 => castDm (.int .i64) .imm d1 fun x1 => castDm (.int .i64) .imm d2 fun x2 => bindO (impl_within N x0 x1 x2) fun r => k [⟨.bool, .imm, r⟩] []) = some y := h
  clear h
  obtain ⟨x0, rfl, h1⟩ := castDm_eq h0
  obtain ⟨x1, rfl, h2⟩ := castDm_eq h1
  obtain ⟨x2, rfl, h3⟩ := castDm_eq h2
  exact con_fin (impl_within.b N x0 x1 x2) h3
theorem impl_within.det (N : Nat) : ConDet (impl_within.con N) := by
  intro ds R k y h
  cases ds with
  | nil => exact none_some h
  | cons d0 ds =>
  cases ds with
  | nil => exact none_some h
  | cons d1 ds =>
  cases ds with
  | nil => exact none_some h
  | cons d2 ds =>
  cases ds with
  | cons _ _ => exact none_some h
  | nil =>
  have h0 : (castDm (.int .i64) .imm d0 fun x0 => castDm (.int .i64) .imm d1 fun x1 => castDm (.int .i64) .imm d2 fun x2 => bindO (impl_within N x0 x1 x2) fun r => k [⟨.bool, .imm, r⟩] []) = some y := h
  clear h
  obtain ⟨x0, rfl, h1⟩ := castDm_eq h0
  obtain ⟨x1, rfl, h2⟩ := castDm_eq h1
  obtain ⟨x2, rfl, h3⟩ := castDm_eq h2
  obtain ⟨r, e, h⟩ := bindO_some h3
  refine ⟨_, _, h, fun k' => ?_⟩
  show (castDm (.int .i64) .imm (⟨(.int .i64), .imm, x0⟩ : Dy) fun x0 => castDm (.int .i64) .imm (⟨(.int .i64), .imm, x1⟩ : Dy) fun x1 => castDm (.int .i64) .imm (⟨(.int .i64), .imm, x2⟩ : Dy) fun x2 => bindO (impl_within N x0 x1 x2) fun r => k' [⟨.bool, .imm, r⟩] []) = _
  simp only [castDm_self]
  rw [e]
  rfl
noncomputable def impl_opRight.con (N : Nat) : Con := { modes := [.v, .v], ptrs := [false], fn := fun ds k => match ds with | [d0, d1] => castDm (.pair (.int .i64) (.pair (.int .i64) .unit)) .imm d0 fun x0 => castDm (.int .i64) .imm d1 fun x1 => bindO (impl_opRight N x0 x1) fun r => k [⟨.bool, .imm, r⟩] [] | _ => none }
noncomputable def impl_opRight.cfg (N : Nat) : Cfg := { ty := tys, keep := [11, 17, 22, 29, 34, 37], flt := [], elm := [(22, (.own .imm)), (24, (.own .imm)), (26, (.own .imm))], live := [], ord := [], con := [((27, [.one, .one, .one]), impl_within.con N)], loops := [], joins := [] }
theorem impl_opRight.cons (N : Nat) : ConsOk Try.prog (impl_opRight.cfg N).con := (consOk_cons (hb27) (impl_within.ok N) (impl_within.det N) consOk_nil)
theorem impl_opRight.ls (N : Nat) : LoopsOk Try.prog (impl_opRight.cfg N) (fnBody Try.f23) := loopsL (l := []) (by kernel_rfl) trivial
theorem impl_opRight.b (N : Nat) (x0 : den (.pair (.int .i64) (.pair (.int .i64) .unit))) (x1 : den (.int .i64)) : body (impl_opRight.cfg N) N Try.f23 [.one, .one] [.v, .v] [(false, .imm)] [⟨(.pair (.int .i64) (.pair (.int .i64) .unit)), .imm, x0⟩, ⟨(.int .i64), .imm, x1⟩] (fun r i => some (r, i)) = bindO (impl_opRight N x0 x1) fun r => some ([⟨.bool, .imm, r⟩], []) := by
  show _ = bindF _ _
  conv => rhs; simp only [impl_opRight, bindF_ifB, bindF_bindO, bindF_pure, bindF_none, bindF_onSum]
  kernel_rfl
theorem impl_opRight.ok (N : Nat) : ConOk Try.prog 23 [.one, .one] (impl_opRight.con N) := by
  refine conOk_mk (g := impl_opRight.cfg N) (N := N) (res := [(false, .imm)]) tys_ok (impl_opRight.cons N) mixed Try.func23 (impl_opRight.ls N) rfl rfl ?_
  intro ds R k y h
  cases ds with
  | nil => exact none_some h
  | cons d0 ds =>
  cases ds with
  | nil => exact none_some h
  | cons d1 ds =>
  cases ds with
  | cons _ _ => exact none_some h
  | nil =>
  have h0 : (castDm (.pair (.int .i64) (.pair (.int .i64) .unit)) .imm d0 fun x0 => castDm (.int .i64) .imm d1 fun x1 => bindO (impl_opRight N x0 x1) fun r => k [⟨.bool, .imm, r⟩] []) = some y := h
  clear h
  obtain ⟨x0, rfl, h1⟩ := castDm_eq h0
  obtain ⟨x1, rfl, h2⟩ := castDm_eq h1
  exact con_fin (impl_opRight.b N x0 x1) h2
theorem impl_opRight.det (N : Nat) : ConDet (impl_opRight.con N) := by
  intro ds R k y h
  cases ds with
  | nil => exact none_some h
  | cons d0 ds =>
  cases ds with
  | nil => exact none_some h
  | cons d1 ds =>
  cases ds with
  | cons _ _ => exact none_some h
  | nil =>
  have h0 : (castDm (.pair (.int .i64) (.pair (.int .i64) .unit)) .imm d0 fun x0 => castDm (.int .i64) .imm d1 fun x1 => bindO (impl_opRight N x0 x1) fun r => k [⟨.bool, .imm, r⟩] []) = some y := h
  clear h
  obtain ⟨x0, rfl, h1⟩ := castDm_eq h0
  obtain ⟨x1, rfl, h2⟩ := castDm_eq h1
  obtain ⟨r, e, h⟩ := bindO_some h2
  refine ⟨_, _, h, fun k' => ?_⟩
  show (castDm (.pair (.int .i64) (.pair (.int .i64) .unit)) .imm (⟨(.pair (.int .i64) (.pair (.int .i64) .unit)), .imm, x0⟩ : Dy) fun x0 => castDm (.int .i64) .imm (⟨(.int .i64), .imm, x1⟩ : Dy) fun x1 => bindO (impl_opRight N x0 x1) fun r => k' [⟨.bool, .imm, r⟩] []) = _
  simp only [castDm_self]
  rw [e]
  rfl
noncomputable def impl_depths_c1.con (N : Nat) : Con := { modes := [.v, .rd], ptrs := [false], fn := fun ds k => match ds with | [d0, d1] => castDm (.pair (.int .i64) (.pair (.int .i64) .unit)) .imm d0 fun x0 => castDm (.int .i64) .imm d1 fun x1 => bindO (impl_depths_c1 N x0 x1) fun r => k [⟨.bool, .imm, r⟩] [] | _ => none }
noncomputable def impl_depths_c1.cfg (N : Nat) : Cfg := { ty := tys, keep := [6], flt := [], elm := [(22, (.own .imm)), (24, (.own .imm)), (26, (.own .imm))], live := [], ord := [], con := [((23, [.one, .one]), impl_opRight.con N)], loops := [], joins := [] }
theorem impl_depths_c1.cons (N : Nat) : ConsOk Try.prog (impl_depths_c1.cfg N).con := (consOk_cons (hb23) (impl_opRight.ok N) (impl_opRight.det N) consOk_nil)
theorem impl_depths_c1.ls (N : Nat) : LoopsOk Try.prog (impl_depths_c1.cfg N) (fnBody Try.f22) := loopsL (l := []) (by kernel_rfl) trivial
theorem impl_depths_c1.b (N : Nat) (x0 : den (.pair (.int .i64) (.pair (.int .i64) .unit))) (x1 : den (.int .i64)) : body (impl_depths_c1.cfg N) N Try.f22 [.one] [.v, .rd] [(false, .imm)] [⟨(.pair (.int .i64) (.pair (.int .i64) .unit)), .imm, x0⟩, ⟨(.int .i64), .imm, x1⟩] (fun r i => some (r, i)) = bindO (impl_depths_c1 N x0 x1) fun r => some ([⟨.bool, .imm, r⟩], []) := by
  show _ = bindF _ _
  conv => rhs; simp only [impl_depths_c1, bindF_ifB, bindF_bindO, bindF_pure, bindF_none, bindF_onSum]
  kernel_rfl
theorem impl_depths_c1.ok (N : Nat) : ConOk Try.prog 22 [.one] (impl_depths_c1.con N) := by
  refine conOk_mk (g := impl_depths_c1.cfg N) (N := N) (res := [(false, .imm)]) tys_ok (impl_depths_c1.cons N) mixed Try.func22 (impl_depths_c1.ls N) rfl rfl ?_
  intro ds R k y h
  cases ds with
  | nil => exact none_some h
  | cons d0 ds =>
  cases ds with
  | nil => exact none_some h
  | cons d1 ds =>
  cases ds with
  | cons _ _ => exact none_some h
  | nil =>
  have h0 : (castDm (.pair (.int .i64) (.pair (.int .i64) .unit)) .imm d0 fun x0 => castDm (.int .i64) .imm d1 fun x1 => bindO (impl_depths_c1 N x0 x1) fun r => k [⟨.bool, .imm, r⟩] []) = some y := h
  clear h
  obtain ⟨x0, rfl, h1⟩ := castDm_eq h0
  obtain ⟨x1, rfl, h2⟩ := castDm_eq h1
  exact con_fin (impl_depths_c1.b N x0 x1) h2
theorem impl_depths_c1.det (N : Nat) : ConDet (impl_depths_c1.con N) := by
  intro ds R k y h
  cases ds with
  | nil => exact none_some h
  | cons d0 ds =>
  cases ds with
  | nil => exact none_some h
  | cons d1 ds =>
  cases ds with
  | cons _ _ => exact none_some h
  | nil =>
  have h0 : (castDm (.pair (.int .i64) (.pair (.int .i64) .unit)) .imm d0 fun x0 => castDm (.int .i64) .imm d1 fun x1 => bindO (impl_depths_c1 N x0 x1) fun r => k [⟨.bool, .imm, r⟩] []) = some y := h
  clear h
  obtain ⟨x0, rfl, h1⟩ := castDm_eq h0
  obtain ⟨x1, rfl, h2⟩ := castDm_eq h1
  obtain ⟨r, e, h⟩ := bindO_some h2
  refine ⟨_, _, h, fun k' => ?_⟩
  show (castDm (.pair (.int .i64) (.pair (.int .i64) .unit)) .imm (⟨(.pair (.int .i64) (.pair (.int .i64) .unit)), .imm, x0⟩ : Dy) fun x0 => castDm (.int .i64) .imm (⟨(.int .i64), .imm, x1⟩ : Dy) fun x1 => bindO (impl_depths_c1 N x0 x1) fun r => k' [⟨.bool, .imm, r⟩] []) = _
  simp only [castDm_self]
  rw [e]
  rfl
end Go.AE.F
