/- The printed functions are what the program comes to: contracts. -/
import Derived.Test.YthfahckdpdmhhaaF10
import Derived.Test.YthfahckdpdmhhaaXViMotionT
namespace Go.AE.F
open Go.AE Go.Proofs
set_option maxRecDepth 100000
noncomputable def laws_szInt64S.con (N : Nat) : Con := { modes := [.v, .v], ptrs := [false], fn := fun ds k => match ds with | [d0, d1] => castDm (.sl 2 (.int .i64)) .imm d0 fun x0 => castDm (.int .i64) .imm d1 fun x1 => bindO (laws_szInt64S N x0 x1) fun r => k [⟨(.int .i64), .imm, r⟩] [] | _ => none }
noncomputable def laws_szInt64S.cfg (N : Nat) : Cfg := { ty := tys, keep := [], flt := [], elm := [(22, (.own .imm)), (23, (.pr (.own .imm) .imm)), (24, (.pr (.own .imm) .imm)), (27, (.pr (.own .imm) .imm))], live := [], ord := [], con := [], loops := [], joins := [] }
theorem laws_szInt64S.cons (N : Nat) : ConsOk Try.prog (laws_szInt64S.cfg N).con := consOk_nil
theorem laws_szInt64S.ls (N : Nat) : LoopsOk Try.prog (laws_szInt64S.cfg N) (fnBody Try.f9) := loopsL (l := []) (by kernel_rfl) trivial
theorem laws_szInt64S.b (N : Nat) (x0 : den (.sl 2 (.int .i64))) (x1 : den (.int .i64)) : body (laws_szInt64S.cfg N) N Try.f9 [.one, .one] [.v, .v] [(false, .imm)] [⟨(.sl 2 (.int .i64)), .imm, x0⟩, ⟨(.int .i64), .imm, x1⟩] (fun r i => some (r, i)) = bindO (laws_szInt64S N x0 x1) fun r => some ([⟨(.int .i64), .imm, r⟩], []) := by
  show _ = bindF _ _
  conv => rhs; simp only [laws_szInt64S, bindF_ifB, bindF_bindO, bindF_pure, bindF_none, bindF_onSum]
  kernel_rfl
theorem laws_szInt64S.ok (N : Nat) : ConOk Try.prog 9 [.one, .one] (laws_szInt64S.con N) := by
  refine conOk_mk (g := laws_szInt64S.cfg N) (N := N) (res := [(false, .imm)]) tys_ok (laws_szInt64S.cons N) mixed Try.func9 (laws_szInt64S.ls N) rfl rfl ?_
  intro ds R k y h
  cases ds with
  | nil => exact none_some h
  | cons d0 ds =>
  cases ds with
  | nil => exact none_some h
  | cons d1 ds =>
  cases ds with
  | cons _ _ => exact none_some h
  | nil =>
  have h0 : (castDm (.sl 2 (.int .i64)) .imm d0 fun x0 => castDm (.int .i64) .imm d1 fun x1 => bindO (laws_szInt64S N x0 x1) fun r => k [⟨(.int .i64), .imm, r⟩] []) = some y := h
  clear h
  obtain ⟨x0, rfl, h1⟩ := castDm_eq h0
  obtain ⟨x1, rfl, h2⟩ := castDm_eq h1
  exact con_fin (laws_szInt64S.b N x0 x1) h2
theorem laws_szInt64S.det (N : Nat) : ConDet (laws_szInt64S.con N) := by
  intro ds R k y h
  cases ds with
  | nil => exact none_some h
  | cons d0 ds =>
  cases ds with
  | nil => exact none_some h
  | cons d1 ds =>
  cases ds with
  | cons _ _ => exact none_some h
  | nil =>
  have h0 : (castDm (.sl 2 (.int .i64)) .imm d0 fun x0 => castDm (.int .i64) .imm d1 fun x1 => bindO (laws_szInt64S N x0 x1) fun r => k [⟨(.int .i64), .imm, r⟩] []) = some y := h
  clear h
  obtain ⟨x0, rfl, h1⟩ := castDm_eq h0
  obtain ⟨x1, rfl, h2⟩ := castDm_eq h1
  obtain ⟨r, e, h⟩ := bindO_some h2
  refine ⟨_, _, h, fun k' => ?_⟩
  show (castDm (.sl 2 (.int .i64)) .imm (⟨(.sl 2 (.int .i64)), .imm, x0⟩ : Dy) fun x0 => castDm (.int .i64) .imm (⟨(.int .i64), .imm, x1⟩ : Dy) fun x1 => bindO (laws_szInt64S N x0 x1) fun r => k' [⟨(.int .i64), .imm, r⟩] []) = _
  simp only [castDm_self]
  rw [e]
  rfl
noncomputable def laws_szBuf.con (N : Nat) : Con := { modes := [.v, .v], ptrs := [false], fn := fun ds k => match ds with | [d0, d1] => castDm (.pair (.sl 2 (.int .i64)) (.pair (.int .i64) (.pair (.int .i64) .unit))) .imm d0 fun x0 => castDm (.int .i64) .imm d1 fun x1 => bindO (laws_szBuf N x0 x1) fun r => k [⟨(.int .i64), .imm, r⟩] [] | _ => none }
noncomputable def laws_szBuf.cfg (N : Nat) : Cfg := { ty := tys, keep := [8], flt := [], elm := [(22, (.own .imm)), (23, (.pr (.own .imm) .imm)), (24, (.pr (.own .imm) .imm)), (27, (.pr (.own .imm) .imm))], live := [], ord := [], con := [((9, [.one, .one]), laws_szInt64S.con N)], loops := [], joins := [] }
theorem laws_szBuf.cons (N : Nat) : ConsOk Try.prog (laws_szBuf.cfg N).con := (consOk_cons (hb9) (laws_szInt64S.ok N) (laws_szInt64S.det N) consOk_nil)
theorem laws_szBuf.ls (N : Nat) : LoopsOk Try.prog (laws_szBuf.cfg N) (fnBody Try.f4) := loopsL (l := []) (by kernel_rfl) trivial
theorem laws_szBuf.b (N : Nat) (x0 : den (.pair (.sl 2 (.int .i64)) (.pair (.int .i64) (.pair (.int .i64) .unit)))) (x1 : den (.int .i64)) : body (laws_szBuf.cfg N) N Try.f4 [.one, .one] [.v, .v] [(false, .imm)] [⟨(.pair (.sl 2 (.int .i64)) (.pair (.int .i64) (.pair (.int .i64) .unit))), .imm, x0⟩, ⟨(.int .i64), .imm, x1⟩] (fun r i => some (r, i)) = bindO (laws_szBuf N x0 x1) fun r => some ([⟨(.int .i64), .imm, r⟩], []) := by
  show _ = bindF _ _
  conv => rhs; simp only [laws_szBuf, bindF_ifB, bindF_bindO, bindF_pure, bindF_none, bindF_onSum]
  kernel_rfl
theorem laws_szBuf.ok (N : Nat) : ConOk Try.prog 4 [.one, .one] (laws_szBuf.con N) := by
  refine conOk_mk (g := laws_szBuf.cfg N) (N := N) (res := [(false, .imm)]) tys_ok (laws_szBuf.cons N) mixed Try.func4 (laws_szBuf.ls N) rfl rfl ?_
  intro ds R k y h
  cases ds with
  | nil => exact none_some h
  | cons d0 ds =>
  cases ds with
  | nil => exact none_some h
  | cons d1 ds =>
  cases ds with
  | cons _ _ => exact none_some h
  | nil =>
  have h0 : (castDm (.pair (.sl 2 (.int .i64)) (.pair (.int .i64) (.pair (.int .i64) .unit))) .imm d0 fun x0 => castDm (.int .i64) .imm d1 fun x1 => bindO (laws_szBuf N x0 x1) fun r => k [⟨(.int .i64), .imm, r⟩] []) = some y := h
  clear h
  obtain ⟨x0, rfl, h1⟩ := castDm_eq h0
  obtain ⟨x1, rfl, h2⟩ := castDm_eq h1
  exact con_fin (laws_szBuf.b N x0 x1) h2
theorem laws_szBuf.det (N : Nat) : ConDet (laws_szBuf.con N) := by
  intro ds R k y h
  cases ds with
  | nil => exact none_some h
  | cons d0 ds =>
  cases ds with
  | nil => exact none_some h
  | cons d1 ds =>
  cases ds with
  | cons _ _ => exact none_some h
  | nil =>
  have h0 : (castDm (.pair (.sl 2 (.int .i64)) (.pair (.int .i64) (.pair (.int .i64) .unit))) .imm d0 fun x0 => castDm (.int .i64) .imm d1 fun x1 => bindO (laws_szBuf N x0 x1) fun r => k [⟨(.int .i64), .imm, r⟩] []) = some y := h
  clear h
  obtain ⟨x0, rfl, h1⟩ := castDm_eq h0
  obtain ⟨x1, rfl, h2⟩ := castDm_eq h1
  obtain ⟨r, e, h⟩ := bindO_some h2
  refine ⟨_, _, h, fun k' => ?_⟩
  show (castDm (.pair (.sl 2 (.int .i64)) (.pair (.int .i64) (.pair (.int .i64) .unit))) .imm (⟨(.pair (.sl 2 (.int .i64)) (.pair (.int .i64) (.pair (.int .i64) .unit))), .imm, x0⟩ : Dy) fun x0 => castDm (.int .i64) .imm (⟨(.int .i64), .imm, x1⟩ : Dy) fun x1 => bindO (laws_szBuf N x0 x1) fun r => k' [⟨(.int .i64), .imm, r⟩] []) = _
  simp only [castDm_self]
  rw [e]
  rfl
def laws_toInt64S.sk3 : Skel := ⟨[.pv (.sl 2 (.int .i64)), .dead, .dead, .ov 50 [], .pv (.int .i64), .dead, .dead, .dead, .dead, .dead, .dead, .dead, .dead, .dead, .dead, .dead, .dead, .dead, .dead, .dead, .dead, .dead], [⟨50, (.sl 2 (.int .i64)), (.own .imm), false, false⟩]⟩
def laws_toInt64S.xs3 : List XS := [⟨.exit 0, [3], ⟨[.dead, .dead, .dead, .ov 50 [], .dead, .dead, .dead, .dead, .dead, .dead, .dead, .dead, .dead, .dead, .dead, .dead, .dead, .dead, .dead, .dead, .dead, .dead], [⟨50, (.sl 2 (.int .i64)), (.own .imm), false, false⟩]⟩⟩]
noncomputable def laws_toInt64S.con (N : Nat) : Con := { modes := [.v], ptrs := [false], fn := fun ds k => match ds with | [d0] => castDm (.sl 2 (.int .i64)) .imm d0 fun x0 => bindO (laws_toInt64S N x0) fun r => k [⟨(.sl 2 (.int .i64)), (.own .imm), r⟩] [] | _ => none }
noncomputable def laws_toInt64S.cfg (N : Nat) : Cfg := { ty := tys, keep := [], flt := [], elm := [(22, (.own .imm)), (23, (.pr (.own .imm) .imm)), (24, (.pr (.own .imm) .imm)), (27, (.pr (.own .imm) .imm))], live := [(3, [0, 3, 4])], ord := [], con := [], loops := [(3, loopCon N laws_toInt64S.sk3 laws_toInt64S.xs3 (fun {R} => laws_toInt64S.l3 (R := R) N))], joins := [] }
theorem laws_toInt64S.cons (N : Nat) : ConsOk Try.prog (laws_toInt64S.cfg N).con := consOk_nil
theorem laws_toInt64S.h3 {R : Type} (N : Nat) (d : laws_toInt64S.sk3.D) (kn : laws_toInt64S.sk3.D → Option R) (kx : XD laws_toInt64S.xs3 → Option R) : roundK (laws_toInt64S.cfg N) N (nthLoop (fnBody Try.f12) 0) laws_toInt64S.sk3 laws_toInt64S.xs3 d kn kx = laws_toInt64S.l3 N d kn kx := by kernel_rfl
theorem laws_toInt64S.i3 (N : Nat) : LoopsOk Try.prog (laws_toInt64S.cfg N) (nthLoop (fnBody Try.f12) 0) := loopsL (l := []) (by kernel_rfl) trivial
theorem laws_toInt64S.o3 (N : Nat) : LoopOk Try.prog (nthLoop (fnBody Try.f12) 0) (loopCon N laws_toInt64S.sk3 laws_toInt64S.xs3 (fun {R} => laws_toInt64S.l3 (R := R) N)) := loop_ok (g := laws_toInt64S.cfg N) tys_ok (laws_toInt64S.cons N) mixed (laws_toInt64S.i3 N) (fun d kn kx => laws_toInt64S.h3 N d kn kx)
theorem laws_toInt64S.ls (N : Nat) : LoopsOk Try.prog (laws_toInt64S.cfg N) (fnBody Try.f12) := loopsL (l := [nthLoop (fnBody Try.f12) 0]) (by kernel_rfl) ⟨loopOne (L0 := loopCon N laws_toInt64S.sk3 laws_toInt64S.xs3 (fun {R} => laws_toInt64S.l3 (R := R) N)) (id := 3) (by kernel_rfl) (by kernel_rfl) (laws_toInt64S.o3 N), trivial⟩
theorem laws_toInt64S.q3 {R R' : Type} {N n : Nat} {d} {k} {g : R → Option R'} : bindF (loopP (laws_toInt64S.l3 N) n d k) g = loopP (laws_toInt64S.l3 N) n d fun e => bindF (k e) g := bindF_loopP (fun d kn kx => by simp only [laws_toInt64S.l3, bindF_ifB, bindF_bindO, bindF_pure, bindF_none, bindF_onSum]) n d k
theorem laws_toInt64S.b (N : Nat) (x0 : den (.sl 2 (.int .i64))) : body (laws_toInt64S.cfg N) N Try.f12 [.one] [.v] [(false, (.own .imm))] [⟨(.sl 2 (.int .i64)), .imm, x0⟩] (fun r i => some (r, i)) = bindO (laws_toInt64S N x0) fun r => some ([⟨(.sl 2 (.int .i64)), (.own .imm), r⟩], []) := by
  show _ = bindF _ _
  conv => rhs; simp only [laws_toInt64S, bindF_ifB, bindF_bindO, bindF_pure, bindF_none, bindF_onSum, laws_toInt64S.q3]
  kernel_rfl
theorem laws_toInt64S.ok (N : Nat) : ConOk Try.prog 12 [.one] (laws_toInt64S.con N) := by
  refine conOk_mk (g := laws_toInt64S.cfg N) (N := N) (res := [(false, (.own .imm))]) tys_ok (laws_toInt64S.cons N) mixed Try.func12 (laws_toInt64S.ls N) rfl rfl ?_
  intro ds R k y h
  cases ds with
  | nil => exact none_some h
  | cons d0 ds =>
  cases ds with
  | cons _ _ => exact none_some h
  | nil =>
  have h0 : (castDm (.sl 2 (.int .i64)) .imm d0 fun x0 => bindO (laws_toInt64S N x0) fun r => k [⟨(.sl 2 (.int .i64)), (.own .imm), r⟩] []) = some y := h
  clear h
  obtain ⟨x0, rfl, h1⟩ := castDm_eq h0
  exact con_fin (laws_toInt64S.b N x0) h1
theorem laws_toInt64S.det (N : Nat) : ConDet (laws_toInt64S.con N) := by
  intro ds R k y h
  cases ds with
  | nil => exact none_some h
  | cons d0 ds =>
  cases ds with
  | cons _ _ => exact none_some h
  | nil =>
  have h0 : (castDm (.sl 2 (.int .i64)) .imm d0 fun x0 => bindO (laws_toInt64S N x0) fun r => k [⟨(.sl 2 (.int .i64)), (.own .imm), r⟩] []) = some y := h
  clear h
  obtain ⟨x0, rfl, h1⟩ := castDm_eq h0
  obtain ⟨r, e, h⟩ := bindO_some h1
  refine ⟨_, _, h, fun k' => ?_⟩
  show (castDm (.sl 2 (.int .i64)) .imm (⟨(.sl 2 (.int .i64)), .imm, x0⟩ : Dy) fun x0 => bindO (laws_toInt64S N x0) fun r => k' [⟨(.sl 2 (.int .i64)), (.own .imm), r⟩] []) = _
  simp only [castDm_self]
  rw [e]
  rfl
noncomputable def laws_toBuf.con (N : Nat) : Con := { modes := [.v], ptrs := [false], fn := fun ds k => match ds with | [d0] => castDm (.pair (.sl 2 (.int .i64)) (.pair (.int .i64) (.pair (.int .i64) .unit))) .imm d0 fun x0 => bindO (laws_toBuf N x0) fun r => k [⟨(.pair (.sl 2 (.int .i64)) (.pair (.int .i64) (.pair (.int .i64) .unit))), (.pr (.own .imm) .imm), r⟩] [] | _ => none }
noncomputable def laws_toBuf.cfg (N : Nat) : Cfg := { ty := tys, keep := [6], flt := [], elm := [(22, (.own .imm)), (23, (.pr (.own .imm) .imm)), (24, (.pr (.own .imm) .imm)), (27, (.pr (.own .imm) .imm))], live := [], ord := [], con := [((12, [.one]), laws_toInt64S.con N)], loops := [], joins := [] }
theorem laws_toBuf.cons (N : Nat) : ConsOk Try.prog (laws_toBuf.cfg N).con := (consOk_cons (hb12) (laws_toInt64S.ok N) (laws_toInt64S.det N) consOk_nil)
theorem laws_toBuf.ls (N : Nat) : LoopsOk Try.prog (laws_toBuf.cfg N) (fnBody Try.f6) := loopsL (l := []) (by kernel_rfl) trivial
theorem laws_toBuf.b (N : Nat) (x0 : den (.pair (.sl 2 (.int .i64)) (.pair (.int .i64) (.pair (.int .i64) .unit)))) : body (laws_toBuf.cfg N) N Try.f6 [.one] [.v] [(false, (.pr (.own .imm) .imm))] [⟨(.pair (.sl 2 (.int .i64)) (.pair (.int .i64) (.pair (.int .i64) .unit))), .imm, x0⟩] (fun r i => some (r, i)) = bindO (laws_toBuf N x0) fun r => some ([⟨(.pair (.sl 2 (.int .i64)) (.pair (.int .i64) (.pair (.int .i64) .unit))), (.pr (.own .imm) .imm), r⟩], []) := by
  show _ = bindF _ _
  conv => rhs; simp only [laws_toBuf, bindF_ifB, bindF_bindO, bindF_pure, bindF_none, bindF_onSum]
  kernel_rfl
theorem laws_toBuf.ok (N : Nat) : ConOk Try.prog 6 [.one] (laws_toBuf.con N) := by
  refine conOk_mk (g := laws_toBuf.cfg N) (N := N) (res := [(false, (.pr (.own .imm) .imm))]) tys_ok (laws_toBuf.cons N) mixed Try.func6 (laws_toBuf.ls N) rfl rfl ?_
  intro ds R k y h
  cases ds with
  | nil => exact none_some h
  | cons d0 ds =>
  cases ds with
  | cons _ _ => exact none_some h
  | nil =>
  have h0 : (castDm (.pair (.sl 2 (.int .i64)) (.pair (.int .i64) (.pair (.int .i64) .unit))) .imm d0 fun x0 => bindO (laws_toBuf N x0) fun r => k [⟨(.pair (.sl 2 (.int .i64)) (.pair (.int .i64) (.pair (.int .i64) .unit))), (.pr (.own .imm) .imm), r⟩] []) = some y := h
  clear h
  obtain ⟨x0, rfl, h1⟩ := castDm_eq h0
  exact con_fin (laws_toBuf.b N x0) h1
theorem laws_toBuf.det (N : Nat) : ConDet (laws_toBuf.con N) := by
  intro ds R k y h
  cases ds with
  | nil => exact none_some h
  | cons d0 ds =>
  cases ds with
  | cons _ _ => exact none_some h
  | nil =>
  have h0 : (castDm (.pair (.sl 2 (.int .i64)) (.pair (.int .i64) (.pair (.int .i64) .unit))) .imm d0 fun x0 => bindO (laws_toBuf N x0) fun r => k [⟨(.pair (.sl 2 (.int .i64)) (.pair (.int .i64) (.pair (.int .i64) .unit))), (.pr (.own .imm) .imm), r⟩] []) = some y := h
  clear h
  obtain ⟨x0, rfl, h1⟩ := castDm_eq h0
  obtain ⟨r, e, h⟩ := bindO_some h1
  refine ⟨_, _, h, fun k' => ?_⟩
  show (castDm (.pair (.sl 2 (.int .i64)) (.pair (.int .i64) (.pair (.int .i64) .unit))) .imm (⟨(.pair (.sl 2 (.int .i64)) (.pair (.int .i64) (.pair (.int .i64) .unit))), .imm, x0⟩ : Dy) fun x0 => bindO (laws_toBuf N x0) fun r => k' [⟨(.pair (.sl 2 (.int .i64)) (.pair (.int .i64) (.pair (.int .i64) .unit))), (.pr (.own .imm) .imm), r⟩] []) = _
  simp only [castDm_self]
  rw [e]
  rfl
def spec_l16Kind.sk3 : Skel := ⟨[.pv (.int .i64), .dead, .dead, .ov 50 [], .pv (.int .i64), .dead, .dead, .dead, .dead, .dead, .dead, .dead, .dead, .dead, .dead, .dead, .dead, .dead, .dead, .dead], [⟨50, (.sl 2 (.int .i64)), (.own .imm), false, false⟩]⟩
def spec_l16Kind.xs3 : List XS := [⟨.exit 0, [], ⟨[.dead, .dead, .dead, .dead, .dead, .dead, .dead, .dead, .dead, .dead, .dead, .dead, .dead, .dead, .dead, .dead, .dead, .dead, .dead, .dead], []⟩⟩, ⟨.ret, [2], ⟨[.dead, .dead, .pv (.int .i64), .dead, .dead, .dead, .dead, .dead, .dead, .dead, .dead, .dead, .dead, .dead, .dead, .dead, .dead, .dead, .dead, .dead], []⟩⟩]
noncomputable def spec_l16Kind.con (N : Nat) : Con := { modes := [.v], ptrs := [false], fn := fun ds k => match ds with | [d0] => castDm (.int .i64) .imm d0 fun x0 => bindO (spec_l16Kind N x0) fun r => k [⟨(.int .i64), .imm, r⟩] [] | _ => none }
noncomputable def spec_l16Kind.cfg (N : Nat) : Cfg := { ty := tys, keep := [], flt := [], elm := [(22, (.own .imm)), (23, (.pr (.own .imm) .imm)), (24, (.pr (.own .imm) .imm)), (27, (.pr (.own .imm) .imm))], live := [(3, [0, 3, 4])], ord := [], con := [], loops := [(3, loopCon N spec_l16Kind.sk3 spec_l16Kind.xs3 (fun {R} => spec_l16Kind.l3 (R := R) N))], joins := [] }
theorem spec_l16Kind.cons (N : Nat) : ConsOk Try.prog (spec_l16Kind.cfg N).con := consOk_nil
theorem spec_l16Kind.h3 {R : Type} (N : Nat) (d : spec_l16Kind.sk3.D) (kn : spec_l16Kind.sk3.D → Option R) (kx : XD spec_l16Kind.xs3 → Option R) : roundK (spec_l16Kind.cfg N) N (nthLoop (fnBody Try.f10) 0) spec_l16Kind.sk3 spec_l16Kind.xs3 d kn kx = spec_l16Kind.l3 N d kn kx := by kernel_rfl
theorem spec_l16Kind.i3 (N : Nat) : LoopsOk Try.prog (spec_l16Kind.cfg N) (nthLoop (fnBody Try.f10) 0) := loopsL (l := []) (by kernel_rfl) trivial
theorem spec_l16Kind.o3 (N : Nat) : LoopOk Try.prog (nthLoop (fnBody Try.f10) 0) (loopCon N spec_l16Kind.sk3 spec_l16Kind.xs3 (fun {R} => spec_l16Kind.l3 (R := R) N)) := loop_ok (g := spec_l16Kind.cfg N) tys_ok (spec_l16Kind.cons N) mixed (spec_l16Kind.i3 N) (fun d kn kx => spec_l16Kind.h3 N d kn kx)
theorem spec_l16Kind.ls (N : Nat) : LoopsOk Try.prog (spec_l16Kind.cfg N) (fnBody Try.f10) := loopsL (l := [nthLoop (fnBody Try.f10) 0]) (by kernel_rfl) ⟨loopOne (L0 := loopCon N spec_l16Kind.sk3 spec_l16Kind.xs3 (fun {R} => spec_l16Kind.l3 (R := R) N)) (id := 3) (by kernel_rfl) (by kernel_rfl) (spec_l16Kind.o3 N), trivial⟩
theorem spec_l16Kind.q3 {R R' : Type} {N n : Nat} {d} {k} {g : R → Option R'} : bindF (loopP (spec_l16Kind.l3 N) n d k) g = loopP (spec_l16Kind.l3 N) n d fun e => bindF (k e) g := bindF_loopP (fun d kn kx => by simp only [spec_l16Kind.l3, bindF_ifB, bindF_bindO, bindF_pure, bindF_none, bindF_onSum]) n d k
theorem spec_l16Kind.b (N : Nat) (x0 : den (.int .i64)) : body (spec_l16Kind.cfg N) N Try.f10 [.one] [.v] [(false, .imm)] [⟨(.int .i64), .imm, x0⟩] (fun r i => some (r, i)) = bindO (spec_l16Kind N x0) fun r => some ([⟨(.int .i64), .imm, r⟩], []) := by
  show _ = bindF _ _
  conv => rhs; simp only [spec_l16Kind, bindF_ifB, bindF_bindO, bindF_pure, bindF_none, bindF_onSum, spec_l16Kind.q3]
  kernel_rfl
theorem spec_l16Kind.ok (N : Nat) : ConOk Try.prog 10 [.one] (spec_l16Kind.con N) := by
  refine conOk_mk (g := spec_l16Kind.cfg N) (N := N) (res := [(false, .imm)]) tys_ok (spec_l16Kind.cons N) mixed Try.func10 (spec_l16Kind.ls N) rfl rfl ?_
  intro ds R k y h
  cases ds with
  | nil => exact none_some h
  | cons d0 ds =>
  cases ds with
  | cons _ _ => exact none_some h
  | nil =>
  have h0 : (castDm (.int .i64) .imm d0 fun x0 => bindO (spec_l16Kind N x0) fun r => k [⟨(.int .i64), .imm, r⟩] []) = some y := h
  clear h
  obtain ⟨x0, rfl, h1⟩ := castDm_eq h0
  exact con_fin (spec_l16Kind.b N x0) h1
theorem spec_l16Kind.det (N : Nat) : ConDet (spec_l16Kind.con N) := by
  intro ds R k y h
  cases ds with
  | nil => exact none_some h
  | cons d0 ds =>
  cases ds with
  | cons _ _ => exact none_some h
  | nil =>
  have h0 : (castDm (.int .i64) .imm d0 fun x0 => bindO (spec_l16Kind N x0) fun r => k [⟨(.int .i64), .imm, r⟩] []) = some y := h
  clear h
  obtain ⟨x0, rfl, h1⟩ := castDm_eq h0
  obtain ⟨r, e, h⟩ := bindO_some h1
  refine ⟨_, _, h, fun k' => ?_⟩
  show (castDm (.int .i64) .imm (⟨(.int .i64), .imm, x0⟩ : Dy) fun x0 => bindO (spec_l16Kind N x0) fun r => k' [⟨(.int .i64), .imm, r⟩] []) = _
  simp only [castDm_self]
  rw [e]
  rfl
noncomputable def spec_l01Point.con (N : Nat) : Con := { modes := [.v], ptrs := [false], fn := fun ds k => match ds with | [d0] => castDm (.int .i64) .imm d0 fun x0 => bindO (spec_l01Point N x0) fun r => k [⟨.bool, .imm, r⟩] [] | _ => none }
noncomputable def spec_l01Point.cfg (N : Nat) : Cfg := { ty := tys, keep := [], flt := [], elm := [(22, (.own .imm)), (23, (.pr (.own .imm) .imm)), (24, (.pr (.own .imm) .imm)), (27, (.pr (.own .imm) .imm))], live := [], ord := [], con := [], loops := [], joins := [] }
theorem spec_l01Point.cons (N : Nat) : ConsOk Try.prog (spec_l01Point.cfg N).con := consOk_nil
theorem spec_l01Point.ls (N : Nat) : LoopsOk Try.prog (spec_l01Point.cfg N) (fnBody Try.f33) := loopsL (l := []) (by kernel_rfl) trivial
theorem spec_l01Point.b (N : Nat) (x0 : den (.int .i64)) : body (spec_l01Point.cfg N) N Try.f33 [.one] [.v] [(false, .imm)] [⟨(.int .i64), .imm, x0⟩] (fun r i => some (r, i)) = bindO (spec_l01Point N x0) fun r => some ([⟨.bool, .imm, r⟩], []) := by
  show _ = bindF _ _
  conv => rhs; simp only [spec_l01Point, bindF_ifB, bindF_bindO, bindF_pure, bindF_none, bindF_onSum]
  kernel_rfl
theorem spec_l01Point.ok (N : Nat) : ConOk Try.prog 33 [.one] (spec_l01Point.con N) := by
  refine conOk_mk (g := spec_l01Point.cfg N) (N := N) (res := [(false, .imm)]) tys_ok (spec_l01Point.cons N) mixed Try.func33 (spec_l01Point.ls N) rfl rfl ?_
  intro ds R k y h
  cases ds with
  | nil => exact none_some h
  | cons d0 ds =>
  cases ds with
  | cons _ _ => exact none_some h
  | nil =>
  have h0 : (castDm (.int .i64) .imm d0 fun x0 => bindO (spec_l01Point N x0) fun r => k [⟨.bool, .imm, r⟩] []) = some y := h
  clear h
  obtain ⟨x0, rfl, h1⟩ := castDm_eq h0
  exact con_fin (spec_l01Point.b N x0) h1
theorem spec_l01Point.det (N : Nat) : ConDet (spec_l01Point.con N) := by
  intro ds R k y h
  cases ds with
  | nil => exact none_some h
  | cons d0 ds =>
  cases ds with
  | cons _ _ => exact none_some h
  | nil =>
  have h0 : (castDm (.int .i64) .imm d0 fun x0 => bindO (spec_l01Point N x0) fun r => k [⟨.bool, .imm, r⟩] []) = some y := h
  clear h
  obtain ⟨x0, rfl, h1⟩ := castDm_eq h0
  obtain ⟨r, e, h⟩ := bindO_some h1
  refine ⟨_, _, h, fun k' => ?_⟩
  show (castDm (.int .i64) .imm (⟨(.int .i64), .imm, x0⟩ : Dy) fun x0 => bindO (spec_l01Point N x0) fun r => k' [⟨.bool, .imm, r⟩] []) = _
  simp only [castDm_self]
  rw [e]
  rfl
def spec_PointsRight.sk4 : Skel := ⟨[.pv (.sl 2 (.int .i64)), .dead, .dead, .pv (.int .i64), .dead, .dead, .dead, .dead, .dead, .dead, .dead, .dead, .dead, .dead, .dead, .dead, .dead, .dead, .dead], []⟩
def spec_PointsRight.xs4 : List XS := [⟨.exit 0, [], ⟨[.dead, .dead, .dead, .dead, .dead, .dead, .dead, .dead, .dead, .dead, .dead, .dead, .dead, .dead, .dead, .dead, .dead, .dead, .dead], []⟩⟩, ⟨.ret, [2], ⟨[.dead, .dead, .pv .bool, .dead, .dead, .dead, .dead, .dead, .dead, .dead, .dead, .dead, .dead, .dead, .dead, .dead, .dead, .dead, .dead], []⟩⟩]
noncomputable def spec_PointsRight.con (N : Nat) : Con := { modes := [.v], ptrs := [false], fn := fun ds k => match ds with | [d0] => castDm (.sl 2 (.int .i64)) .imm d0 fun x0 => bindO (spec_PointsRight N x0) fun r => k [⟨.bool, .imm, r⟩] [] | _ => none }
noncomputable def spec_PointsRight.cfg (N : Nat) : Cfg := { ty := tys, keep := [17], flt := [], elm := [(22, (.own .imm)), (23, (.pr (.own .imm) .imm)), (24, (.pr (.own .imm) .imm)), (27, (.pr (.own .imm) .imm))], live := [(4, [0, 3])], ord := [], con := [((33, [.one]), spec_l01Point.con N)], loops := [(4, loopCon N spec_PointsRight.sk4 spec_PointsRight.xs4 (fun {R} => spec_PointsRight.l4 (R := R) N))], joins := [] }
theorem spec_PointsRight.cons (N : Nat) : ConsOk Try.prog (spec_PointsRight.cfg N).con := (consOk_cons (hb33) (spec_l01Point.ok N) (spec_l01Point.det N) consOk_nil)
theorem spec_PointsRight.h4 {R : Type} (N : Nat) (d : spec_PointsRight.sk4.D) (kn : spec_PointsRight.sk4.D → Option R) (kx : XD spec_PointsRight.xs4 → Option R) : roundK (spec_PointsRight.cfg N) N (nthLoop (fnBody Try.f23) 0) spec_PointsRight.sk4 spec_PointsRight.xs4 d kn kx = spec_PointsRight.l4 N d kn kx := by kernel_rfl
theorem spec_PointsRight.i4 (N : Nat) : LoopsOk Try.prog (spec_PointsRight.cfg N) (nthLoop (fnBody Try.f23) 0) := loopsL (l := []) (by kernel_rfl) trivial
theorem spec_PointsRight.o4 (N : Nat) : LoopOk Try.prog (nthLoop (fnBody Try.f23) 0) (loopCon N spec_PointsRight.sk4 spec_PointsRight.xs4 (fun {R} => spec_PointsRight.l4 (R := R) N)) := loop_ok (g := spec_PointsRight.cfg N) tys_ok (spec_PointsRight.cons N) mixed (spec_PointsRight.i4 N) (fun d kn kx => spec_PointsRight.h4 N d kn kx)
theorem spec_PointsRight.ls (N : Nat) : LoopsOk Try.prog (spec_PointsRight.cfg N) (fnBody Try.f23) := loopsL (l := [nthLoop (fnBody Try.f23) 0]) (by kernel_rfl) ⟨loopOne (L0 := loopCon N spec_PointsRight.sk4 spec_PointsRight.xs4 (fun {R} => spec_PointsRight.l4 (R := R) N)) (id := 4) (by kernel_rfl) (by kernel_rfl) (spec_PointsRight.o4 N), trivial⟩
theorem spec_PointsRight.q4 {R R' : Type} {N n : Nat} {d} {k} {g : R → Option R'} : bindF (loopP (spec_PointsRight.l4 N) n d k) g = loopP (spec_PointsRight.l4 N) n d fun e => bindF (k e) g := bindF_loopP (fun d kn kx => by simp only [spec_PointsRight.l4, bindF_ifB, bindF_bindO, bindF_pure, bindF_none, bindF_onSum]) n d k
theorem spec_PointsRight.b (N : Nat) (x0 : den (.sl 2 (.int .i64))) : body (spec_PointsRight.cfg N) N Try.f23 [.one] [.v] [(false, .imm)] [⟨(.sl 2 (.int .i64)), .imm, x0⟩] (fun r i => some (r, i)) = bindO (spec_PointsRight N x0) fun r => some ([⟨.bool, .imm, r⟩], []) := by
  show _ = bindF _ _
  conv => rhs; simp only [spec_PointsRight, bindF_ifB, bindF_bindO, bindF_pure, bindF_none, bindF_onSum, spec_PointsRight.q4]
  kernel_rfl
theorem spec_PointsRight.ok (N : Nat) : ConOk Try.prog 23 [.one] (spec_PointsRight.con N) := by
  refine conOk_mk (g := spec_PointsRight.cfg N) (N := N) (res := [(false, .imm)]) tys_ok (spec_PointsRight.cons N) mixed Try.func23 (spec_PointsRight.ls N) rfl rfl ?_
  intro ds R k y h
  cases ds with
  | nil => exact none_some h
  | cons d0 ds =>
  cases ds with
  | cons _ _ => exact none_some h
  | nil =>
  have h0 : (castDm (.sl 2 (.int .i64)) .imm d0 fun x0 => bindO (spec_PointsRight N x0) fun r => k [⟨.bool, .imm, r⟩] []) = some y := h
  clear h
  obtain ⟨x0, rfl, h1⟩ := castDm_eq h0
  exact con_fin (spec_PointsRight.b N x0) h1
theorem spec_PointsRight.det (N : Nat) : ConDet (spec_PointsRight.con N) := by
  intro ds R k y h
  cases ds with
  | nil => exact none_some h
  | cons d0 ds =>
  cases ds with
  | cons _ _ => exact none_some h
  | nil =>
  have h0 : (castDm (.sl 2 (.int .i64)) .imm d0 fun x0 => bindO (spec_PointsRight N x0) fun r => k [⟨.bool, .imm, r⟩] []) = some y := h
  clear h
  obtain ⟨x0, rfl, h1⟩ := castDm_eq h0
  obtain ⟨r, e, h⟩ := bindO_some h1
  refine ⟨_, _, h, fun k' => ?_⟩
  show (castDm (.sl 2 (.int .i64)) .imm (⟨(.sl 2 (.int .i64)), .imm, x0⟩ : Dy) fun x0 => bindO (spec_PointsRight N x0) fun r => k' [⟨.bool, .imm, r⟩] []) = _
  simp only [castDm_self]
  rw [e]
  rfl
noncomputable def spec_BufRight.con (N : Nat) : Con := { modes := [.v], ptrs := [false], fn := fun ds k => match ds with | [d0] => castDm (.pair (.sl 2 (.int .i64)) (.pair (.int .i64) (.pair (.int .i64) .unit))) .imm d0 fun x0 => bindO (spec_BufRight N x0) fun r => k [⟨.bool, .imm, r⟩] [] | _ => none }
noncomputable def spec_BufRight.cfg (N : Nat) : Cfg := { ty := tys, keep := [9], flt := [], elm := [(22, (.own .imm)), (23, (.pr (.own .imm) .imm)), (24, (.pr (.own .imm) .imm)), (27, (.pr (.own .imm) .imm))], live := [], ord := [], con := [((23, [.one]), spec_PointsRight.con N)], loops := [], joins := [] }
theorem spec_BufRight.cons (N : Nat) : ConsOk Try.prog (spec_BufRight.cfg N).con := (consOk_cons (hb23) (spec_PointsRight.ok N) (spec_PointsRight.det N) consOk_nil)
theorem spec_BufRight.ls (N : Nat) : LoopsOk Try.prog (spec_BufRight.cfg N) (fnBody Try.f16) := loopsL (l := []) (by kernel_rfl) trivial
theorem spec_BufRight.b (N : Nat) (x0 : den (.pair (.sl 2 (.int .i64)) (.pair (.int .i64) (.pair (.int .i64) .unit)))) : body (spec_BufRight.cfg N) N Try.f16 [.one] [.v] [(false, .imm)] [⟨(.pair (.sl 2 (.int .i64)) (.pair (.int .i64) (.pair (.int .i64) .unit))), .imm, x0⟩] (fun r i => some (r, i)) = bindO (spec_BufRight N x0) fun r => some ([⟨.bool, .imm, r⟩], []) := by
  show _ = bindF _ _
  conv => rhs; simp only [spec_BufRight, bindF_ifB, bindF_bindO, bindF_pure, bindF_none, bindF_onSum]
  kernel_rfl
theorem spec_BufRight.ok (N : Nat) : ConOk Try.prog 16 [.one] (spec_BufRight.con N) := by
  refine conOk_mk (g := spec_BufRight.cfg N) (N := N) (res := [(false, .imm)]) tys_ok (spec_BufRight.cons N) mixed Try.func16 (spec_BufRight.ls N) rfl rfl ?_
  intro ds R k y h
  cases ds with
  | nil => exact none_some h
  | cons d0 ds =>
  cases ds with
  | cons _ _ => exact none_some h
  | nil =>
  have h0 : (castDm (.pair (.sl 2 (.int .i64)) (.pair (.int .i64) (.pair (.int .i64) .unit))) .imm d0 fun x0 => bindO (spec_BufRight N x0) fun r => k [⟨.bool, .imm, r⟩] []) = some y := h
  clear h
  obtain ⟨x0, rfl, h1⟩ := castDm_eq h0
  exact con_fin (spec_BufRight.b N x0) h1
theorem spec_BufRight.det (N : Nat) : ConDet (spec_BufRight.con N) := by
  intro ds R k y h
  cases ds with
  | nil => exact none_some h
  | cons d0 ds =>
  cases ds with
  | cons _ _ => exact none_some h
  | nil =>
  have h0 : (castDm (.pair (.sl 2 (.int .i64)) (.pair (.int .i64) (.pair (.int .i64) .unit))) .imm d0 fun x0 => bindO (spec_BufRight N x0) fun r => k [⟨.bool, .imm, r⟩] []) = some y := h
  clear h
  obtain ⟨x0, rfl, h1⟩ := castDm_eq h0
  obtain ⟨r, e, h⟩ := bindO_some h1
  refine ⟨_, _, h, fun k' => ?_⟩
  show (castDm (.pair (.sl 2 (.int .i64)) (.pair (.int .i64) (.pair (.int .i64) .unit))) .imm (⟨(.pair (.sl 2 (.int .i64)) (.pair (.int .i64) (.pair (.int .i64) .unit))), .imm, x0⟩ : Dy) fun x0 => bindO (spec_BufRight N x0) fun r => k' [⟨.bool, .imm, r⟩] []) = _
  simp only [castDm_self]
  rw [e]
  rfl
def spec_l03Start.sk1 : Skel := ⟨[.dead, .pv (.int .i64), .ptr 50 [], .dead, .dead, .dead, .dead, .dead, .dead, .dead, .dead, .dead, .dead, .dead, .dead, .dead, .dead, .dead, .dead], [⟨50, (.pair (.sl 2 (.int .i64)) (.pair (.int .i64) (.pair (.int .i64) .unit))), .imm, true, false⟩]⟩
def spec_l03Start.xs1 : List XS := [⟨.exit 0, [1], ⟨[.dead, .pv (.int .i64), .dead, .dead, .dead, .dead, .dead, .dead, .dead, .dead, .dead, .dead, .dead, .dead, .dead, .dead, .dead, .dead, .dead], []⟩⟩]
noncomputable def spec_l03Start.con (N : Nat) : Con := { modes := [.v, .v], ptrs := [false], fn := fun ds k => match ds with | [d0, d1] => castDm (.pair (.sl 2 (.int .i64)) (.pair (.int .i64) (.pair (.int .i64) .unit))) .imm d0 fun x0 => castDm (.int .i64) .imm d1 fun x1 => bindO (spec_l03Start N x0 x1) fun r => k [⟨(.int .i64), .imm, r⟩] [] | _ => none }
noncomputable def spec_l03Start.cfg (N : Nat) : Cfg := { ty := tys, keep := [], flt := [], elm := [(22, (.own .imm)), (23, (.pr (.own .imm) .imm)), (24, (.pr (.own .imm) .imm)), (27, (.pr (.own .imm) .imm))], live := [(1, [1, 2, 8, 9, 10, 11, 12, 13, 14])], ord := [], con := [], loops := [(1, loopCon N spec_l03Start.sk1 spec_l03Start.xs1 (fun {R} => spec_l03Start.l1 (R := R) N))], joins := [] }
theorem spec_l03Start.cons (N : Nat) : ConsOk Try.prog (spec_l03Start.cfg N).con := consOk_nil
theorem spec_l03Start.h1 {R : Type} (N : Nat) (d : spec_l03Start.sk1.D) (kn : spec_l03Start.sk1.D → Option R) (kx : XD spec_l03Start.xs1 → Option R) : roundK (spec_l03Start.cfg N) N (nthLoop (fnBody Try.f24) 0) spec_l03Start.sk1 spec_l03Start.xs1 d kn kx = spec_l03Start.l1 N d kn kx := by kernel_rfl
theorem spec_l03Start.i1 (N : Nat) : LoopsOk Try.prog (spec_l03Start.cfg N) (nthLoop (fnBody Try.f24) 0) := loopsL (l := []) (by kernel_rfl) trivial
theorem spec_l03Start.o1 (N : Nat) : LoopOk Try.prog (nthLoop (fnBody Try.f24) 0) (loopCon N spec_l03Start.sk1 spec_l03Start.xs1 (fun {R} => spec_l03Start.l1 (R := R) N)) := loop_ok (g := spec_l03Start.cfg N) tys_ok (spec_l03Start.cons N) mixed (spec_l03Start.i1 N) (fun d kn kx => spec_l03Start.h1 N d kn kx)
theorem spec_l03Start.ls (N : Nat) : LoopsOk Try.prog (spec_l03Start.cfg N) (fnBody Try.f24) := loopsL (l := [nthLoop (fnBody Try.f24) 0]) (by kernel_rfl) ⟨loopOne (L0 := loopCon N spec_l03Start.sk1 spec_l03Start.xs1 (fun {R} => spec_l03Start.l1 (R := R) N)) (id := 1) (by kernel_rfl) (by kernel_rfl) (spec_l03Start.o1 N), trivial⟩
theorem spec_l03Start.q1 {R R' : Type} {N n : Nat} {d} {k} {g : R → Option R'} : bindF (loopP (spec_l03Start.l1 N) n d k) g = loopP (spec_l03Start.l1 N) n d fun e => bindF (k e) g := bindF_loopP (fun d kn kx => by simp only [spec_l03Start.l1, bindF_ifB, bindF_bindO, bindF_pure, bindF_none, bindF_onSum]) n d k
theorem spec_l03Start.b (N : Nat) (x0 : den (.pair (.sl 2 (.int .i64)) (.pair (.int .i64) (.pair (.int .i64) .unit)))) (x1 : den (.int .i64)) : body (spec_l03Start.cfg N) N Try.f24 [.one, .one] [.v, .v] [(false, .imm)] [⟨(.pair (.sl 2 (.int .i64)) (.pair (.int .i64) (.pair (.int .i64) .unit))), .imm, x0⟩, ⟨(.int .i64), .imm, x1⟩] (fun r i => some (r, i)) = bindO (spec_l03Start N x0 x1) fun r => some ([⟨(.int .i64), .imm, r⟩], []) := by
  show _ = bindF _ _
  conv => rhs; simp only [spec_l03Start, bindF_ifB, bindF_bindO, bindF_pure, bindF_none, bindF_onSum, spec_l03Start.q1]
  kernel_rfl
theorem spec_l03Start.ok (N : Nat) : ConOk Try.prog 24 [.one, .one] (spec_l03Start.con N) := by
  refine conOk_mk (g := spec_l03Start.cfg N) (N := N) (res := [(false, .imm)]) tys_ok (spec_l03Start.cons N) mixed Try.func24 (spec_l03Start.ls N) rfl rfl ?_
  intro ds R k y h
  cases ds with
  | nil => exact none_some h
  | cons d0 ds =>
  cases ds with
  | nil => exact none_some h
  | cons d1 ds =>
  cases ds with
  | cons _ _ => exact none_some h
  | nil =>
  have h0 : (castDm (.pair (.sl 2 (.int .i64)) (.pair (.int .i64) (.pair (.int .i64) .unit))) .imm d0 fun x0 => castDm (.int .i64) .imm d1 fun x1 => bindO (spec_l03Start N x0 x1) fun r => k [⟨(.int .i64), .imm, r⟩] []) = some y := h
  clear h
  obtain ⟨x0, rfl, h1⟩ := castDm_eq h0
  obtain ⟨x1, rfl, h2⟩ := castDm_eq h1
  exact con_fin (spec_l03Start.b N x0 x1) h2
theorem spec_l03Start.det (N : Nat) : ConDet (spec_l03Start.con N) := by
  intro ds R k y h
  cases ds with
  | nil => exact none_some h
  | cons d0 ds =>
  cases ds with
  | nil => exact none_some h
  | cons d1 ds =>
  cases ds with
  | cons _ _ => exact none_some h
  | nil =>
  have h0 : (castDm (.pair (.sl 2 (.int .i64)) (.pair (.int .i64) (.pair (.int .i64) .unit))) .imm d0 fun x0 => castDm (.int .i64) .imm d1 fun x1 => bindO (spec_l03Start N x0 x1) fun r => k [⟨(.int .i64), .imm, r⟩] []) = some y := h
  clear h
  obtain ⟨x0, rfl, h1⟩ := castDm_eq h0
  obtain ⟨x1, rfl, h2⟩ := castDm_eq h1
  obtain ⟨r, e, h⟩ := bindO_some h2
  refine ⟨_, _, h, fun k' => ?_⟩
  show (castDm (.pair (.sl 2 (.int .i64)) (.pair (.int .i64) (.pair (.int .i64) .unit))) .imm (⟨(.pair (.sl 2 (.int .i64)) (.pair (.int .i64) (.pair (.int .i64) .unit))), .imm, x0⟩ : Dy) fun x0 => castDm (.int .i64) .imm (⟨(.int .i64), .imm, x1⟩ : Dy) fun x1 => bindO (spec_l03Start N x0 x1) fun r => k' [⟨(.int .i64), .imm, r⟩] []) = _
  simp only [castDm_self]
  rw [e]
  rfl
def spec_l03Spot.sk3 : Skel := ⟨[.dead, .pv (.int .i64), .ptr 50 [], .dead, .ptr 51 [], .pv (.int .i64), .pv (.int .i64), .dead, .dead, .dead, .dead, .dead, .dead, .dead, .dead, .dead, .dead, .dead, .dead, .dead, .dead, .dead, .dead, .dead, .dead, .dead, .dead], [⟨50, (.pair (.sl 2 (.int .i64)) (.pair (.int .i64) (.pair (.int .i64) .unit))), .imm, true, false⟩, ⟨51, (.pair (.int .i64) (.pair (.int .i64) .unit)), .imm, true, false⟩]⟩
def spec_l03Spot.xs3 : List XS := [⟨.exit 0, [1, 2, 4, 5], ⟨[.dead, .pv (.int .i64), .ptr 50 [], .dead, .ptr 51 [], .pv (.int .i64), .dead, .dead, .dead, .dead, .dead, .dead, .dead, .dead, .dead, .dead, .dead, .dead, .dead, .dead, .dead, .dead, .dead, .dead, .dead, .dead, .dead], [⟨50, (.pair (.sl 2 (.int .i64)) (.pair (.int .i64) (.pair (.int .i64) .unit))), .imm, true, false⟩, ⟨51, (.pair (.int .i64) (.pair (.int .i64) .unit)), .imm, true, false⟩]⟩⟩]
noncomputable def spec_l03Spot.con (N : Nat) : Con := { modes := [.v, .v], ptrs := [false], fn := fun ds k => match ds with | [d0, d1] => castDm (.pair (.sl 2 (.int .i64)) (.pair (.int .i64) (.pair (.int .i64) .unit))) .imm d0 fun x0 => castDm (.int .i64) .imm d1 fun x1 => bindO (spec_l03Spot N x0 x1) fun r => k [⟨(.pair (.int .i64) (.pair (.int .i64) .unit)), .imm, r⟩] [] | _ => none }
noncomputable def spec_l03Spot.cfg (N : Nat) : Cfg := { ty := tys, keep := [24], flt := [], elm := [(22, (.own .imm)), (23, (.pr (.own .imm) .imm)), (24, (.pr (.own .imm) .imm)), (27, (.pr (.own .imm) .imm))], live := [(3, [1, 2, 4, 5, 6])], ord := [], con := [((24, [.one, .one]), spec_l03Start.con N)], loops := [(3, loopCon N spec_l03Spot.sk3 spec_l03Spot.xs3 (fun {R} => spec_l03Spot.l3 (R := R) N))], joins := [(4, [⟨.normal, [1, 2, 4, 5, 6], ⟨[.dead, .pv (.int .i64), .ptr 50 [], .dead, .ptr 51 [], .pv (.int .i64), .pv (.int .i64), .dead, .dead, .dead, .dead, .dead, .dead, .dead, .dead, .dead, .dead, .dead, .dead, .dead, .dead, .dead, .dead, .dead, .dead, .dead, .dead], [⟨50, (.pair (.sl 2 (.int .i64)) (.pair (.int .i64) (.pair (.int .i64) .unit))), .imm, true, false⟩, ⟨51, (.pair (.int .i64) (.pair (.int .i64) .unit)), .imm, true, false⟩]⟩⟩])] }
theorem spec_l03Spot.cons (N : Nat) : ConsOk Try.prog (spec_l03Spot.cfg N).con := (consOk_cons (hb24) (spec_l03Start.ok N) (spec_l03Start.det N) consOk_nil)
theorem spec_l03Spot.h3 {R : Type} (N : Nat) (d : spec_l03Spot.sk3.D) (kn : spec_l03Spot.sk3.D → Option R) (kx : XD spec_l03Spot.xs3 → Option R) : roundK (spec_l03Spot.cfg N) N (nthLoop (fnBody Try.f17) 0) spec_l03Spot.sk3 spec_l03Spot.xs3 d kn kx = spec_l03Spot.l3 N d kn kx := by kernel_rfl
theorem spec_l03Spot.i3 (N : Nat) : LoopsOk Try.prog (spec_l03Spot.cfg N) (nthLoop (fnBody Try.f17) 0) := loopsL (l := []) (by kernel_rfl) trivial
theorem spec_l03Spot.o3 (N : Nat) : LoopOk Try.prog (nthLoop (fnBody Try.f17) 0) (loopCon N spec_l03Spot.sk3 spec_l03Spot.xs3 (fun {R} => spec_l03Spot.l3 (R := R) N)) := loop_ok (g := spec_l03Spot.cfg N) tys_ok (spec_l03Spot.cons N) mixed (spec_l03Spot.i3 N) (fun d kn kx => spec_l03Spot.h3 N d kn kx)
theorem spec_l03Spot.ls (N : Nat) : LoopsOk Try.prog (spec_l03Spot.cfg N) (fnBody Try.f17) := loopsL (l := [nthLoop (fnBody Try.f17) 0]) (by kernel_rfl) ⟨loopOne (L0 := loopCon N spec_l03Spot.sk3 spec_l03Spot.xs3 (fun {R} => spec_l03Spot.l3 (R := R) N)) (id := 3) (by kernel_rfl) (by kernel_rfl) (spec_l03Spot.o3 N), trivial⟩
theorem spec_l03Spot.q3 {R R' : Type} {N n : Nat} {d} {k} {g : R → Option R'} : bindF (loopP (spec_l03Spot.l3 N) n d k) g = loopP (spec_l03Spot.l3 N) n d fun e => bindF (k e) g := bindF_loopP (fun d kn kx => by simp only [spec_l03Spot.l3, bindF_ifB, bindF_bindO, bindF_pure, bindF_none, bindF_onSum]) n d k
theorem spec_l03Spot.b (N : Nat) (x0 : den (.pair (.sl 2 (.int .i64)) (.pair (.int .i64) (.pair (.int .i64) .unit)))) (x1 : den (.int .i64)) : body (spec_l03Spot.cfg N) N Try.f17 [.one, .one] [.v, .v] [(false, .imm)] [⟨(.pair (.sl 2 (.int .i64)) (.pair (.int .i64) (.pair (.int .i64) .unit))), .imm, x0⟩, ⟨(.int .i64), .imm, x1⟩] (fun r i => some (r, i)) = bindO (spec_l03Spot N x0 x1) fun r => some ([⟨(.pair (.int .i64) (.pair (.int .i64) .unit)), .imm, r⟩], []) := by
  show _ = bindF _ _
  conv => rhs; simp only [spec_l03Spot, bindF_ifB, bindF_bindO, bindF_pure, bindF_none, bindF_onSum, spec_l03Spot.q3]
  kernel_rfl
theorem spec_l03Spot.ok (N : Nat) : ConOk Try.prog 17 [.one, .one] (spec_l03Spot.con N) := by
  refine conOk_mk (g := spec_l03Spot.cfg N) (N := N) (res := [(false, .imm)]) tys_ok (spec_l03Spot.cons N) mixed Try.func17 (spec_l03Spot.ls N) rfl rfl ?_
  intro ds R k y h
  cases ds with
  | nil => exact none_some h
  | cons d0 ds =>
  cases ds with
  | nil => exact none_some h
  | cons d1 ds =>
  cases ds with
  | cons _ _ => exact none_some h
  | nil =>
  have h0 : (castDm (.pair (.sl 2 (.int .i64)) (.pair (.int .i64) (.pair (.int .i64) .unit))) .imm d0 fun x0 => castDm (.int .i64) .imm d1 fun x1 => bindO (spec_l03Spot N x0 x1) fun r => k [⟨(.pair (.int .i64) (.pair (.int .i64) .unit)), .imm, r⟩] []) = some y := h
  clear h
  obtain ⟨x0, rfl, h1⟩ := castDm_eq h0
  obtain ⟨x1, rfl, h2⟩ := castDm_eq h1
  exact con_fin (spec_l03Spot.b N x0 x1) h2
theorem spec_l03Spot.det (N : Nat) : ConDet (spec_l03Spot.con N) := by
  intro ds R k y h
  cases ds with
  | nil => exact none_some h
  | cons d0 ds =>
  cases ds with
  | nil => exact none_some h
  | cons d1 ds =>
  cases ds with
  | cons _ _ => exact none_some h
  | nil =>
  have h0 : (castDm (.pair (.sl 2 (.int .i64)) (.pair (.int .i64) (.pair (.int .i64) .unit))) .imm d0 fun x0 => castDm (.int .i64) .imm d1 fun x1 => bindO (spec_l03Spot N x0 x1) fun r => k [⟨(.pair (.int .i64) (.pair (.int .i64) .unit)), .imm, r⟩] []) = some y := h
  clear h
  obtain ⟨x0, rfl, h1⟩ := castDm_eq h0
  obtain ⟨x1, rfl, h2⟩ := castDm_eq h1
  obtain ⟨r, e, h⟩ := bindO_some h2
  refine ⟨_, _, h, fun k' => ?_⟩
  show (castDm (.pair (.sl 2 (.int .i64)) (.pair (.int .i64) (.pair (.int .i64) .unit))) .imm (⟨(.pair (.sl 2 (.int .i64)) (.pair (.int .i64) (.pair (.int .i64) .unit))), .imm, x0⟩ : Dy) fun x0 => castDm (.int .i64) .imm (⟨(.int .i64), .imm, x1⟩ : Dy) fun x1 => bindO (spec_l03Spot N x0 x1) fun r => k' [⟨(.pair (.int .i64) (.pair (.int .i64) .unit)), .imm, r⟩] []) = _
  simp only [castDm_self]
  rw [e]
  rfl
noncomputable def spec_LineCount.con (N : Nat) : Con := { modes := [.v], ptrs := [false], fn := fun ds k => match ds with | [d0] => castDm (.pair (.sl 2 (.int .i64)) (.pair (.int .i64) (.pair (.int .i64) .unit))) .imm d0 fun x0 => bindO (spec_LineCount N x0) fun r => k [⟨(.int .i64), .imm, r⟩] [] | _ => none }
noncomputable def spec_LineCount.cfg (N : Nat) : Cfg := { ty := tys, keep := [4, 10], flt := [], elm := [(22, (.own .imm)), (23, (.pr (.own .imm) .imm)), (24, (.pr (.own .imm) .imm)), (27, (.pr (.own .imm) .imm))], live := [], ord := [], con := [((16, [.one]), spec_BufRight.con N), ((17, [.one, .one]), spec_l03Spot.con N)], loops := [], joins := [] }
theorem spec_LineCount.cons (N : Nat) : ConsOk Try.prog (spec_LineCount.cfg N).con := (consOk_cons (hb16) (spec_BufRight.ok N) (spec_BufRight.det N) (consOk_cons (hb17) (spec_l03Spot.ok N) (spec_l03Spot.det N) consOk_nil))
theorem spec_LineCount.ls (N : Nat) : LoopsOk Try.prog (spec_LineCount.cfg N) (fnBody Try.f27) := loopsL (l := []) (by kernel_rfl) trivial
theorem spec_LineCount.b (N : Nat) (x0 : den (.pair (.sl 2 (.int .i64)) (.pair (.int .i64) (.pair (.int .i64) .unit)))) : body (spec_LineCount.cfg N) N Try.f27 [.one] [.v] [(false, .imm)] [⟨(.pair (.sl 2 (.int .i64)) (.pair (.int .i64) (.pair (.int .i64) .unit))), .imm, x0⟩] (fun r i => some (r, i)) = bindO (spec_LineCount N x0) fun r => some ([⟨(.int .i64), .imm, r⟩], []) := by
  show _ = bindF _ _
  conv => rhs; simp only [spec_LineCount, bindF_ifB, bindF_bindO, bindF_pure, bindF_none, bindF_onSum]
  kernel_rfl
theorem spec_LineCount.ok (N : Nat) : ConOk Try.prog 27 [.one] (spec_LineCount.con N) := by
  refine conOk_mk (g := spec_LineCount.cfg N) (N := N) (res := [(false, .imm)]) tys_ok (spec_LineCount.cons N) mixed Try.func27 (spec_LineCount.ls N) rfl rfl ?_
  intro ds R k y h
  cases ds with
  | nil => exact none_some h
  | cons d0 ds =>
  cases ds with
  | cons _ _ => exact none_some h
  | nil =>
  have h0 : (castDm (.pair (.sl 2 (.int .i64)) (.pair (.int .i64) (.pair (.int .i64) .unit))) .imm d0 fun x0 => bindO (spec_LineCount N x0) fun r => k [⟨(.int .i64), .imm, r⟩] []) = some y := h
  clear h
  obtain ⟨x0, rfl, h1⟩ := castDm_eq h0
  exact con_fin (spec_LineCount.b N x0) h1
theorem spec_LineCount.det (N : Nat) : ConDet (spec_LineCount.con N) := by
  intro ds R k y h
  cases ds with
  | nil => exact none_some h
  | cons d0 ds =>
  cases ds with
  | cons _ _ => exact none_some h
  | nil =>
  have h0 : (castDm (.pair (.sl 2 (.int .i64)) (.pair (.int .i64) (.pair (.int .i64) .unit))) .imm d0 fun x0 => bindO (spec_LineCount N x0) fun r => k [⟨(.int .i64), .imm, r⟩] []) = some y := h
  clear h
  obtain ⟨x0, rfl, h1⟩ := castDm_eq h0
  obtain ⟨r, e, h⟩ := bindO_some h1
  refine ⟨_, _, h, fun k' => ?_⟩
  show (castDm (.pair (.sl 2 (.int .i64)) (.pair (.int .i64) (.pair (.int .i64) .unit))) .imm (⟨(.pair (.sl 2 (.int .i64)) (.pair (.int .i64) (.pair (.int .i64) .unit))), .imm, x0⟩ : Dy) fun x0 => bindO (spec_LineCount N x0) fun r => k' [⟨(.int .i64), .imm, r⟩] []) = _
  simp only [castDm_self]
  rw [e]
  rfl
noncomputable def spec_l01Min.con (N : Nat) : Con := { modes := [.v, .v], ptrs := [false], fn := fun ds k => match ds with | [d0, d1] => castDm (.int .i64) .imm d0 fun x0 => castDm (.int .i64) .imm d1 fun x1 => bindO (spec_l01Min N x0 x1) fun r => k [⟨(.int .i64), .imm, r⟩] [] | _ => none }
noncomputable def spec_l01Min.cfg (N : Nat) : Cfg := { ty := tys, keep := [], flt := [], elm := [(22, (.own .imm)), (23, (.pr (.own .imm) .imm)), (24, (.pr (.own .imm) .imm)), (27, (.pr (.own .imm) .imm))], live := [], ord := [], con := [], loops := [], joins := [] }
theorem spec_l01Min.cons (N : Nat) : ConsOk Try.prog (spec_l01Min.cfg N).con := consOk_nil
theorem spec_l01Min.ls (N : Nat) : LoopsOk Try.prog (spec_l01Min.cfg N) (fnBody Try.f26) := loopsL (l := []) (by kernel_rfl) trivial
theorem spec_l01Min.b (N : Nat) (x0 : den (.int .i64)) (x1 : den (.int .i64)) : body (spec_l01Min.cfg N) N Try.f26 [.one, .one] [.v, .v] [(false, .imm)] [⟨(.int .i64), .imm, x0⟩, ⟨(.int .i64), .imm, x1⟩] (fun r i => some (r, i)) = bindO (spec_l01Min N x0 x1) fun r => some ([⟨(.int .i64), .imm, r⟩], []) := by
  show _ = bindF _ _
  conv => rhs; simp only [spec_l01Min, bindF_ifB, bindF_bindO, bindF_pure, bindF_none, bindF_onSum]
  kernel_rfl
theorem spec_l01Min.ok (N : Nat) : ConOk Try.prog 26 [.one, .one] (spec_l01Min.con N) := by
  refine conOk_mk (g := spec_l01Min.cfg N) (N := N) (res := [(false, .imm)]) tys_ok (spec_l01Min.cons N) mixed Try.func26 (spec_l01Min.ls N) rfl rfl ?_
  intro ds R k y h
  cases ds with
  | nil => exact none_some h
  | cons d0 ds =>
  cases ds with
  | nil => exact none_some h
  | cons d1 ds =>
  cases ds with
  | cons _ _ => exact none_some h
  | nil =>
  have h0 : (castDm (.int .i64) .imm d0 fun x0 => castDm (.int .i64) .imm d1 fun x1 => bindO (spec_l01Min N x0 x1) fun r => k [⟨(.int .i64), .imm, r⟩] []) = some y := h
  clear h
  obtain ⟨x0, rfl, h1⟩ := castDm_eq h0
  obtain ⟨x1, rfl, h2⟩ := castDm_eq h1
  exact con_fin (spec_l01Min.b N x0 x1) h2
theorem spec_l01Min.det (N : Nat) : ConDet (spec_l01Min.con N) := by
  intro ds R k y h
  cases ds with
  | nil => exact none_some h
  | cons d0 ds =>
  cases ds with
  | nil => exact none_some h
  | cons d1 ds =>
  cases ds with
  | cons _ _ => exact none_some h
  | nil =>
  have h0 : (castDm (.int .i64) .imm d0 fun x0 => castDm (.int .i64) .imm d1 fun x1 => bindO (spec_l01Min N x0 x1) fun r => k [⟨(.int .i64), .imm, r⟩] []) = some y := h
  clear h
  obtain ⟨x0, rfl, h1⟩ := castDm_eq h0
  obtain ⟨x1, rfl, h2⟩ := castDm_eq h1
  obtain ⟨r, e, h⟩ := bindO_some h2
  refine ⟨_, _, h, fun k' => ?_⟩
  show (castDm (.int .i64) .imm (⟨(.int .i64), .imm, x0⟩ : Dy) fun x0 => castDm (.int .i64) .imm (⟨(.int .i64), .imm, x1⟩ : Dy) fun x1 => bindO (spec_l01Min N x0 x1) fun r => k' [⟨(.int .i64), .imm, r⟩] []) = _
  simp only [castDm_self]
  rw [e]
  rfl
end Go.AE.F
