/- The printed functions are what the program comes to: contracts. -/
import Derived.Test.YtlkpikakncnjfaaF4
import Derived.Test.YtlkpikakncnjfaaXWordAheadT
namespace Go.AE.F
open Go.AE Go.Proofs
set_option maxRecDepth 100000
noncomputable def laws_szInt64S.con (N : Nat) : Con := { modes := [.v, .v], ptrs := [false], fn := fun ds k => match ds with | [d0, d1] => castDm (.sl 2 (.int .i64)) .imm d0 fun x0 => castDm (.int .i64) .imm d1 fun x1 => bindO (laws_szInt64S N x0 x1) fun r => k [⟨(.int .i64), .imm, r⟩] [] | _ => none }
noncomputable def laws_szInt64S.cfg (N : Nat) : Cfg := { ty := tys, keep := [], flt := [], elm := [(22, (.own .imm)), (23, (.pr (.own .imm) .imm)), (24, (.pr (.own .imm) .imm)), (27, (.pr (.own .imm) .imm)), (34, (.own .imm)), (37, (.own .imm)), (44, (.own .imm)), (45, (.own (.own .imm))), (53, (.pr (.own (.own .imm)) (.pr .imm (.pr (.own .imm) .imm)))), (54, (.pr (.own (.own .imm)) (.pr .imm (.pr (.own .imm) .imm)))), (63, (.pr (.pr (.own (.own .imm)) (.pr .imm (.pr (.own .imm) .imm))) (.pr (.own .imm) .imm))), (64, (.pr (.pr (.own (.own .imm)) (.pr .imm (.pr (.own .imm) .imm))) (.pr (.own .imm) .imm))), (74, (.pr (.own (.own .imm)) .imm)), (75, (.pr (.own (.own .imm)) .imm)), (77, (.pr (.own (.own .imm)) .imm)), (90, (.pr (.pr (.own .imm) .imm) .imm)), (91, (.pr (.pr (.own .imm) .imm) .imm)), (96, (.own (.pr (.own .imm) .imm))), (97, (.pr (.own (.pr (.own .imm) .imm)) (.pr (.own (.pr (.own .imm) .imm)) .imm))), (98, (.pr (.own (.pr (.own .imm) .imm)) (.pr (.own (.pr (.own .imm) .imm)) .imm))), (99, (.pr (.pr (.own (.pr (.own .imm) .imm)) (.pr (.own (.pr (.own .imm) .imm)) .imm)) (.pr (.pr (.own .imm) .imm) .imm))), (100, (.pr (.pr (.own (.pr (.own .imm) .imm)) (.pr (.own (.pr (.own .imm) .imm)) .imm)) (.pr (.pr (.own .imm) .imm) .imm))), (102, (.own .imm)), (139, (.own .imm)), (142, (.own (.pr (.pr (.own .imm) .imm) .imm))), (143, (.pr .imm (.pr .imm (.pr .imm (.pr (.own (.pr (.pr (.own .imm) .imm) .imm)) (.pr .imm (.pr (.own .imm) .imm))))))), (144, (.pr .imm (.pr .imm (.pr .imm (.pr (.own (.pr (.pr (.own .imm) .imm) .imm)) (.pr .imm (.pr (.own .imm) .imm))))))), (148, (.pr (.pr (.own .imm) .imm) (.pr (.own .imm) .imm))), (149, (.pr (.pr (.own .imm) .imm) (.pr (.own .imm) .imm))), (155, (.pr (.own .imm) .imm)), (156, (.pr (.own .imm) .imm)), (176, (.own (.own (.pr (.own .imm) .imm)))), (177, (.pr .imm (.pr (.own (.own (.pr (.own .imm) .imm))) .imm))), (178, (.pr .imm (.pr (.own (.own (.pr (.own .imm) .imm))) .imm))), (197, (.pr (.own .imm) .imm)), (198, (.pr (.own .imm) .imm)), (199, (.pr (.pr (.own .imm) .imm) .imm)), (200, (.pr (.pr (.own .imm) .imm) .imm)), (201, (.own (.pr (.own .imm) .imm))), (221, (.own .imm))], live := [], ord := [], con := [], loops := [], joins := [] }
theorem laws_szInt64S.cons (N : Nat) : ConsOk Try.prog (laws_szInt64S.cfg N).con := consOk_nil
theorem laws_szInt64S.ls (N : Nat) : LoopsOk Try.prog (laws_szInt64S.cfg N) (fnBody Try.f87) := loopsL (l := []) (by kernel_rfl) trivial
theorem laws_szInt64S.b (N : Nat) (x0 : den (.sl 2 (.int .i64))) (x1 : den (.int .i64)) : body (laws_szInt64S.cfg N) N Try.f87 [.one, .one] [.v, .v] [(false, .imm)] [⟨(.sl 2 (.int .i64)), .imm, x0⟩, ⟨(.int .i64), .imm, x1⟩] (fun r i => some (r, i)) = bindO (laws_szInt64S N x0 x1) fun r => some ([⟨(.int .i64), .imm, r⟩], []) := by
  show _ = bindF _ _
  conv => rhs; simp only [laws_szInt64S, bindF_ifB, bindF_bindO, bindF_pure, bindF_none, bindF_onSum]
  kernel_rfl
theorem laws_szInt64S.ok (N : Nat) : ConOk Try.prog 87 [.one, .one] (laws_szInt64S.con N) := by
  refine conOk_mk (g := laws_szInt64S.cfg N) (N := N) (res := [(false, .imm)]) tys_ok (laws_szInt64S.cons N) mixed Try.func87 (laws_szInt64S.ls N) rfl rfl ?_
  intro ds R k y h
  cases ds with
  | nil => exact none_some h
  | cons d0 ds =>
  cases ds with
  | nil => exact none_some h
  | cons d1 ds =>
  cases ds with
  | cons _ _ => exact none_some h
  | nil =>
  have h0 : (castDm (.sl 2 (.int .i64)) .imm d0 fun x0 => castDm (.int .i64) .imm d1 fun x1 => bindO (laws_szInt64S N x0 x1) fun r => k [⟨(.int .i64), .imm, r⟩] []) = some y := h
  clear h
  obtain ⟨x0, rfl, h1⟩ := castDm_eq h0
  obtain ⟨x1, rfl, h2⟩ := castDm_eq h1
  exact con_fin (laws_szInt64S.b N x0 x1) h2
theorem laws_szInt64S.det (N : Nat) : ConDet (laws_szInt64S.con N) := by
  intro ds R k y h
  cases ds with
  | nil => exact none_some h
  | cons d0 ds =>
  cases ds with
  | nil => exact none_some h
  | cons d1 ds =>
  cases ds with
  | cons _ _ => exact none_some h
  | nil =>
  have h0 : (castDm (.sl 2 (.int .i64)) .imm d0 fun x0 => castDm (.int .i64) .imm d1 fun x1 => bindO (laws_szInt64S N x0 x1) fun r => k [⟨(.int .i64), .imm, r⟩] []) = some y := h
  clear h
  obtain ⟨x0, rfl, h1⟩ := castDm_eq h0
  obtain ⟨x1, rfl, h2⟩ := castDm_eq h1
  obtain ⟨r, e, h⟩ := bindO_some h2
  refine ⟨_, _, h, fun k' => ?_⟩
  show (castDm (.sl 2 (.int .i64)) .imm (⟨(.sl 2 (.int .i64)), .imm, x0⟩ : Dy) fun x0 => castDm (.int .i64) .imm (⟨(.int .i64), .imm, x1⟩ : Dy) fun x1 => bindO (laws_szInt64S N x0 x1) fun r => k' [⟨(.int .i64), .imm, r⟩] []) = _
  simp only [castDm_self]
  rw [e]
  rfl
noncomputable def laws_szBuf.con (N : Nat) : Con := { modes := [.v, .v], ptrs := [false], fn := fun ds k => match ds with | [d0, d1] => castDm (.pair (.sl 2 (.int .i64)) (.pair (.int .i64) (.pair (.int .i64) .unit))) .imm d0 fun x0 => castDm (.int .i64) .imm d1 fun x1 => bindO (laws_szBuf N x0 x1) fun r => k [⟨(.int .i64), .imm, r⟩] [] | _ => none }
noncomputable def laws_szBuf.cfg (N : Nat) : Cfg := { ty := tys, keep := [8], flt := [], elm := [(22, (.own .imm)), (23, (.pr (.own .imm) .imm)), (24, (.pr (.own .imm) .imm)), (27, (.pr (.own .imm) .imm)), (34, (.own .imm)), (37, (.own .imm)), (44, (.own .imm)), (45, (.own (.own .imm))), (53, (.pr (.own (.own .imm)) (.pr .imm (.pr (.own .imm) .imm)))), (54, (.pr (.own (.own .imm)) (.pr .imm (.pr (.own .imm) .imm)))), (63, (.pr (.pr (.own (.own .imm)) (.pr .imm (.pr (.own .imm) .imm))) (.pr (.own .imm) .imm))), (64, (.pr (.pr (.own (.own .imm)) (.pr .imm (.pr (.own .imm) .imm))) (.pr (.own .imm) .imm))), (74, (.pr (.own (.own .imm)) .imm)), (75, (.pr (.own (.own .imm)) .imm)), (77, (.pr (.own (.own .imm)) .imm)), (90, (.pr (.pr (.own .imm) .imm) .imm)), (91, (.pr (.pr (.own .imm) .imm) .imm)), (96, (.own (.pr (.own .imm) .imm))), (97, (.pr (.own (.pr (.own .imm) .imm)) (.pr (.own (.pr (.own .imm) .imm)) .imm))), (98, (.pr (.own (.pr (.own .imm) .imm)) (.pr (.own (.pr (.own .imm) .imm)) .imm))), (99, (.pr (.pr (.own (.pr (.own .imm) .imm)) (.pr (.own (.pr (.own .imm) .imm)) .imm)) (.pr (.pr (.own .imm) .imm) .imm))), (100, (.pr (.pr (.own (.pr (.own .imm) .imm)) (.pr (.own (.pr (.own .imm) .imm)) .imm)) (.pr (.pr (.own .imm) .imm) .imm))), (102, (.own .imm)), (139, (.own .imm)), (142, (.own (.pr (.pr (.own .imm) .imm) .imm))), (143, (.pr .imm (.pr .imm (.pr .imm (.pr (.own (.pr (.pr (.own .imm) .imm) .imm)) (.pr .imm (.pr (.own .imm) .imm))))))), (144, (.pr .imm (.pr .imm (.pr .imm (.pr (.own (.pr (.pr (.own .imm) .imm) .imm)) (.pr .imm (.pr (.own .imm) .imm))))))), (148, (.pr (.pr (.own .imm) .imm) (.pr (.own .imm) .imm))), (149, (.pr (.pr (.own .imm) .imm) (.pr (.own .imm) .imm))), (155, (.pr (.own .imm) .imm)), (156, (.pr (.own .imm) .imm)), (176, (.own (.own (.pr (.own .imm) .imm)))), (177, (.pr .imm (.pr (.own (.own (.pr (.own .imm) .imm))) .imm))), (178, (.pr .imm (.pr (.own (.own (.pr (.own .imm) .imm))) .imm))), (197, (.pr (.own .imm) .imm)), (198, (.pr (.own .imm) .imm)), (199, (.pr (.pr (.own .imm) .imm) .imm)), (200, (.pr (.pr (.own .imm) .imm) .imm)), (201, (.own (.pr (.own .imm) .imm))), (221, (.own .imm))], live := [], ord := [], con := [((87, [.one, .one]), laws_szInt64S.con N)], loops := [], joins := [] }
theorem laws_szBuf.cons (N : Nat) : ConsOk Try.prog (laws_szBuf.cfg N).con := (consOk_cons (hb87) (laws_szInt64S.ok N) (laws_szInt64S.det N) consOk_nil)
theorem laws_szBuf.ls (N : Nat) : LoopsOk Try.prog (laws_szBuf.cfg N) (fnBody Try.f15) := loopsL (l := []) (by kernel_rfl) trivial
theorem laws_szBuf.b (N : Nat) (x0 : den (.pair (.sl 2 (.int .i64)) (.pair (.int .i64) (.pair (.int .i64) .unit)))) (x1 : den (.int .i64)) : body (laws_szBuf.cfg N) N Try.f15 [.one, .one] [.v, .v] [(false, .imm)] [⟨(.pair (.sl 2 (.int .i64)) (.pair (.int .i64) (.pair (.int .i64) .unit))), .imm, x0⟩, ⟨(.int .i64), .imm, x1⟩] (fun r i => some (r, i)) = bindO (laws_szBuf N x0 x1) fun r => some ([⟨(.int .i64), .imm, r⟩], []) := by
  show _ = bindF _ _
  conv => rhs; simp only [laws_szBuf, bindF_ifB, bindF_bindO, bindF_pure, bindF_none, bindF_onSum]
  kernel_rfl
theorem laws_szBuf.ok (N : Nat) : ConOk Try.prog 15 [.one, .one] (laws_szBuf.con N) := by
  refine conOk_mk (g := laws_szBuf.cfg N) (N := N) (res := [(false, .imm)]) tys_ok (laws_szBuf.cons N) mixed Try.func15 (laws_szBuf.ls N) rfl rfl ?_
  intro ds R k y h
  cases ds with
  | nil => exact none_some h
  | cons d0 ds =>
  cases ds with
  | nil => exact none_some h
  | cons d1 ds =>
  cases ds with
  | cons _ _ => exact none_some h
  | nil =>
  have h0 : (castDm (.pair (.sl 2 (.int .i64)) (.pair (.int .i64) (.pair (.int .i64) .unit))) .imm d0 fun x0 => castDm (.int .i64) .imm d1 fun x1 => bindO (laws_szBuf N x0 x1) fun r => k [⟨(.int .i64), .imm, r⟩] []) = some y := h
  clear h
  obtain ⟨x0, rfl, h1⟩ := castDm_eq h0
  obtain ⟨x1, rfl, h2⟩ := castDm_eq h1
  exact con_fin (laws_szBuf.b N x0 x1) h2
theorem laws_szBuf.det (N : Nat) : ConDet (laws_szBuf.con N) := by
  intro ds R k y h
  cases ds with
  | nil => exact none_some h
  | cons d0 ds =>
  cases ds with
  | nil => exact none_some h
  | cons d1 ds =>
  cases ds with
  | cons _ _ => exact none_some h
  | nil =>
  have h0 : (castDm (.pair (.sl 2 (.int .i64)) (.pair (.int .i64) (.pair (.int .i64) .unit))) .imm d0 fun x0 => castDm (.int .i64) .imm d1 fun x1 => bindO (laws_szBuf N x0 x1) fun r => k [⟨(.int .i64), .imm, r⟩] []) = some y := h
  clear h
  obtain ⟨x0, rfl, h1⟩ := castDm_eq h0
  obtain ⟨x1, rfl, h2⟩ := castDm_eq h1
  obtain ⟨r, e, h⟩ := bindO_some h2
  refine ⟨_, _, h, fun k' => ?_⟩
  show (castDm (.pair (.sl 2 (.int .i64)) (.pair (.int .i64) (.pair (.int .i64) .unit))) .imm (⟨(.pair (.sl 2 (.int .i64)) (.pair (.int .i64) (.pair (.int .i64) .unit))), .imm, x0⟩ : Dy) fun x0 => castDm (.int .i64) .imm (⟨(.int .i64), .imm, x1⟩ : Dy) fun x1 => bindO (laws_szBuf N x0 x1) fun r => k' [⟨(.int .i64), .imm, r⟩] []) = _
  simp only [castDm_self]
  rw [e]
  rfl
def laws_toInt64S.sk3 : Skel := ⟨[.pv (.sl 2 (.int .i64)), .dead, .dead, .ov 50 [], .pv (.int .i64), .dead, .dead, .dead, .dead, .dead, .dead, .dead, .dead, .dead, .dead, .dead, .dead, .dead, .dead, .dead, .dead, .dead], [⟨50, (.sl 2 (.int .i64)), (.own .imm), false, false⟩]⟩
def laws_toInt64S.xs3 : List XS := [⟨.exit 0, [3], ⟨[.dead, .dead, .dead, .ov 50 [], .dead, .dead, .dead, .dead, .dead, .dead, .dead, .dead, .dead, .dead, .dead, .dead, .dead, .dead, .dead, .dead, .dead, .dead], [⟨50, (.sl 2 (.int .i64)), (.own .imm), false, false⟩]⟩⟩]
noncomputable def laws_toInt64S.con (N : Nat) : Con := { modes := [.v], ptrs := [false], fn := fun ds k => match ds with | [d0] => castDm (.sl 2 (.int .i64)) .imm d0 fun x0 => bindO (laws_toInt64S N x0) fun r => k [⟨(.sl 2 (.int .i64)), (.own .imm), r⟩] [] | _ => none }
noncomputable def laws_toInt64S.cfg (N : Nat) : Cfg := { ty := tys, keep := [], flt := [], elm := [(22, (.own .imm)), (23, (.pr (.own .imm) .imm)), (24, (.pr (.own .imm) .imm)), (27, (.pr (.own .imm) .imm)), (34, (.own .imm)), (37, (.own .imm)), (44, (.own .imm)), (45, (.own (.own .imm))), (53, (.pr (.own (.own .imm)) (.pr .imm (.pr (.own .imm) .imm)))), (54, (.pr (.own (.own .imm)) (.pr .imm (.pr (.own .imm) .imm)))), (63, (.pr (.pr (.own (.own .imm)) (.pr .imm (.pr (.own .imm) .imm))) (.pr (.own .imm) .imm))), (64, (.pr (.pr (.own (.own .imm)) (.pr .imm (.pr (.own .imm) .imm))) (.pr (.own .imm) .imm))), (74, (.pr (.own (.own .imm)) .imm)), (75, (.pr (.own (.own .imm)) .imm)), (77, (.pr (.own (.own .imm)) .imm)), (90, (.pr (.pr (.own .imm) .imm) .imm)), (91, (.pr (.pr (.own .imm) .imm) .imm)), (96, (.own (.pr (.own .imm) .imm))), (97, (.pr (.own (.pr (.own .imm) .imm)) (.pr (.own (.pr (.own .imm) .imm)) .imm))), (98, (.pr (.own (.pr (.own .imm) .imm)) (.pr (.own (.pr (.own .imm) .imm)) .imm))), (99, (.pr (.pr (.own (.pr (.own .imm) .imm)) (.pr (.own (.pr (.own .imm) .imm)) .imm)) (.pr (.pr (.own .imm) .imm) .imm))), (100, (.pr (.pr (.own (.pr (.own .imm) .imm)) (.pr (.own (.pr (.own .imm) .imm)) .imm)) (.pr (.pr (.own .imm) .imm) .imm))), (102, (.own .imm)), (139, (.own .imm)), (142, (.own (.pr (.pr (.own .imm) .imm) .imm))), (143, (.pr .imm (.pr .imm (.pr .imm (.pr (.own (.pr (.pr (.own .imm) .imm) .imm)) (.pr .imm (.pr (.own .imm) .imm))))))), (144, (.pr .imm (.pr .imm (.pr .imm (.pr (.own (.pr (.pr (.own .imm) .imm) .imm)) (.pr .imm (.pr (.own .imm) .imm))))))), (148, (.pr (.pr (.own .imm) .imm) (.pr (.own .imm) .imm))), (149, (.pr (.pr (.own .imm) .imm) (.pr (.own .imm) .imm))), (155, (.pr (.own .imm) .imm)), (156, (.pr (.own .imm) .imm)), (176, (.own (.own (.pr (.own .imm) .imm)))), (177, (.pr .imm (.pr (.own (.own (.pr (.own .imm) .imm))) .imm))), (178, (.pr .imm (.pr (.own (.own (.pr (.own .imm) .imm))) .imm))), (197, (.pr (.own .imm) .imm)), (198, (.pr (.own .imm) .imm)), (199, (.pr (.pr (.own .imm) .imm) .imm)), (200, (.pr (.pr (.own .imm) .imm) .imm)), (201, (.own (.pr (.own .imm) .imm))), (221, (.own .imm))], live := [(3, [0, 3, 4])], ord := [], con := [], loops := [(3, loopCon N laws_toInt64S.sk3 laws_toInt64S.xs3 (fun {R} => laws_toInt64S.l3 (R := R) N))], joins := [] }
theorem laws_toInt64S.cons (N : Nat) : ConsOk Try.prog (laws_toInt64S.cfg N).con := consOk_nil
theorem laws_toInt64S.h3 {R : Type} (N : Nat) (d : laws_toInt64S.sk3.D) (kn : laws_toInt64S.sk3.D → Option R) (kx : XD laws_toInt64S.xs3 → Option R) : roundK (laws_toInt64S.cfg N) N (nthLoop (fnBody Try.f62) 0) laws_toInt64S.sk3 laws_toInt64S.xs3 d kn kx = laws_toInt64S.l3 N d kn kx := by kernel_rfl
theorem laws_toInt64S.i3 (N : Nat) : LoopsOk Try.prog (laws_toInt64S.cfg N) (nthLoop (fnBody Try.f62) 0) := loopsL (l := []) (by kernel_rfl) trivial
theorem laws_toInt64S.o3 (N : Nat) : LoopOk Try.prog (nthLoop (fnBody Try.f62) 0) (loopCon N laws_toInt64S.sk3 laws_toInt64S.xs3 (fun {R} => laws_toInt64S.l3 (R := R) N)) := loop_ok (g := laws_toInt64S.cfg N) tys_ok (laws_toInt64S.cons N) mixed (laws_toInt64S.i3 N) (fun d kn kx => laws_toInt64S.h3 N d kn kx)
theorem laws_toInt64S.ls (N : Nat) : LoopsOk Try.prog (laws_toInt64S.cfg N) (fnBody Try.f62) := loopsL (l := [nthLoop (fnBody Try.f62) 0]) (by kernel_rfl) ⟨loopOne (L0 := loopCon N laws_toInt64S.sk3 laws_toInt64S.xs3 (fun {R} => laws_toInt64S.l3 (R := R) N)) (id := 3) (by kernel_rfl) (by kernel_rfl) (laws_toInt64S.o3 N), trivial⟩
theorem laws_toInt64S.q3 {R R' : Type} {N n : Nat} {d} {k} {g : R → Option R'} : bindF (loopP (laws_toInt64S.l3 N) n d k) g = loopP (laws_toInt64S.l3 N) n d fun e => bindF (k e) g := bindF_loopP (fun d kn kx => by simp only [laws_toInt64S.l3, bindF_ifB, bindF_bindO, bindF_pure, bindF_none, bindF_onSum]) n d k
theorem laws_toInt64S.b (N : Nat) (x0 : den (.sl 2 (.int .i64))) : body (laws_toInt64S.cfg N) N Try.f62 [.one] [.v] [(false, (.own .imm))] [⟨(.sl 2 (.int .i64)), .imm, x0⟩] (fun r i => some (r, i)) = bindO (laws_toInt64S N x0) fun r => some ([⟨(.sl 2 (.int .i64)), (.own .imm), r⟩], []) := by
  show _ = bindF _ _
  conv => rhs; simp only [laws_toInt64S, bindF_ifB, bindF_bindO, bindF_pure, bindF_none, bindF_onSum, laws_toInt64S.q3]
  kernel_rfl
theorem laws_toInt64S.ok (N : Nat) : ConOk Try.prog 62 [.one] (laws_toInt64S.con N) := by
  refine conOk_mk (g := laws_toInt64S.cfg N) (N := N) (res := [(false, (.own .imm))]) tys_ok (laws_toInt64S.cons N) mixed Try.func62 (laws_toInt64S.ls N) rfl rfl ?_
  intro ds R k y h
  cases ds with
  | nil => exact none_some h
  | cons d0 ds =>
  cases ds with
  | cons _ _ => exact none_some h
  | nil =>
  have h0 : (castDm (.sl 2 (.int .i64)) .imm d0 fun x0 => bindO (laws_toInt64S N x0) fun r => k [⟨(.sl 2 (.int .i64)), (.own .imm), r⟩] []) = some y := h
  clear h
  obtain ⟨x0, rfl, h1⟩ := castDm_eq h0
  exact con_fin (laws_toInt64S.b N x0) h1
theorem laws_toInt64S.det (N : Nat) : ConDet (laws_toInt64S.con N) := by
  intro ds R k y h
  cases ds with
  | nil => exact none_some h
  | cons d0 ds =>
  cases ds with
  | cons _ _ => exact none_some h
  | nil =>
  have h0 : (castDm (.sl 2 (.int .i64)) .imm d0 fun x0 => bindO (laws_toInt64S N x0) fun r => k [⟨(.sl 2 (.int .i64)), (.own .imm), r⟩] []) = some y := h
  clear h
  obtain ⟨x0, rfl, h1⟩ := castDm_eq h0
  obtain ⟨r, e, h⟩ := bindO_some h1
  refine ⟨_, _, h, fun k' => ?_⟩
  show (castDm (.sl 2 (.int .i64)) .imm (⟨(.sl 2 (.int .i64)), .imm, x0⟩ : Dy) fun x0 => bindO (laws_toInt64S N x0) fun r => k' [⟨(.sl 2 (.int .i64)), (.own .imm), r⟩] []) = _
  simp only [castDm_self]
  rw [e]
  rfl
noncomputable def laws_toBuf.con (N : Nat) : Con := { modes := [.v], ptrs := [false], fn := fun ds k => match ds with | [d0] => castDm (.pair (.sl 2 (.int .i64)) (.pair (.int .i64) (.pair (.int .i64) .unit))) .imm d0 fun x0 => bindO (laws_toBuf N x0) fun r => k [⟨(.pair (.sl 2 (.int .i64)) (.pair (.int .i64) (.pair (.int .i64) .unit))), (.pr (.own .imm) .imm), r⟩] [] | _ => none }
noncomputable def laws_toBuf.cfg (N : Nat) : Cfg := { ty := tys, keep := [6], flt := [], elm := [(22, (.own .imm)), (23, (.pr (.own .imm) .imm)), (24, (.pr (.own .imm) .imm)), (27, (.pr (.own .imm) .imm)), (34, (.own .imm)), (37, (.own .imm)), (44, (.own .imm)), (45, (.own (.own .imm))), (53, (.pr (.own (.own .imm)) (.pr .imm (.pr (.own .imm) .imm)))), (54, (.pr (.own (.own .imm)) (.pr .imm (.pr (.own .imm) .imm)))), (63, (.pr (.pr (.own (.own .imm)) (.pr .imm (.pr (.own .imm) .imm))) (.pr (.own .imm) .imm))), (64, (.pr (.pr (.own (.own .imm)) (.pr .imm (.pr (.own .imm) .imm))) (.pr (.own .imm) .imm))), (74, (.pr (.own (.own .imm)) .imm)), (75, (.pr (.own (.own .imm)) .imm)), (77, (.pr (.own (.own .imm)) .imm)), (90, (.pr (.pr (.own .imm) .imm) .imm)), (91, (.pr (.pr (.own .imm) .imm) .imm)), (96, (.own (.pr (.own .imm) .imm))), (97, (.pr (.own (.pr (.own .imm) .imm)) (.pr (.own (.pr (.own .imm) .imm)) .imm))), (98, (.pr (.own (.pr (.own .imm) .imm)) (.pr (.own (.pr (.own .imm) .imm)) .imm))), (99, (.pr (.pr (.own (.pr (.own .imm) .imm)) (.pr (.own (.pr (.own .imm) .imm)) .imm)) (.pr (.pr (.own .imm) .imm) .imm))), (100, (.pr (.pr (.own (.pr (.own .imm) .imm)) (.pr (.own (.pr (.own .imm) .imm)) .imm)) (.pr (.pr (.own .imm) .imm) .imm))), (102, (.own .imm)), (139, (.own .imm)), (142, (.own (.pr (.pr (.own .imm) .imm) .imm))), (143, (.pr .imm (.pr .imm (.pr .imm (.pr (.own (.pr (.pr (.own .imm) .imm) .imm)) (.pr .imm (.pr (.own .imm) .imm))))))), (144, (.pr .imm (.pr .imm (.pr .imm (.pr (.own (.pr (.pr (.own .imm) .imm) .imm)) (.pr .imm (.pr (.own .imm) .imm))))))), (148, (.pr (.pr (.own .imm) .imm) (.pr (.own .imm) .imm))), (149, (.pr (.pr (.own .imm) .imm) (.pr (.own .imm) .imm))), (155, (.pr (.own .imm) .imm)), (156, (.pr (.own .imm) .imm)), (176, (.own (.own (.pr (.own .imm) .imm)))), (177, (.pr .imm (.pr (.own (.own (.pr (.own .imm) .imm))) .imm))), (178, (.pr .imm (.pr (.own (.own (.pr (.own .imm) .imm))) .imm))), (197, (.pr (.own .imm) .imm)), (198, (.pr (.own .imm) .imm)), (199, (.pr (.pr (.own .imm) .imm) .imm)), (200, (.pr (.pr (.own .imm) .imm) .imm)), (201, (.own (.pr (.own .imm) .imm))), (221, (.own .imm))], live := [], ord := [], con := [((62, [.one]), laws_toInt64S.con N)], loops := [], joins := [] }
theorem laws_toBuf.cons (N : Nat) : ConsOk Try.prog (laws_toBuf.cfg N).con := (consOk_cons (hb62) (laws_toInt64S.ok N) (laws_toInt64S.det N) consOk_nil)
theorem laws_toBuf.ls (N : Nat) : LoopsOk Try.prog (laws_toBuf.cfg N) (fnBody Try.f17) := loopsL (l := []) (by kernel_rfl) trivial
theorem laws_toBuf.b (N : Nat) (x0 : den (.pair (.sl 2 (.int .i64)) (.pair (.int .i64) (.pair (.int .i64) .unit)))) : body (laws_toBuf.cfg N) N Try.f17 [.one] [.v] [(false, (.pr (.own .imm) .imm))] [⟨(.pair (.sl 2 (.int .i64)) (.pair (.int .i64) (.pair (.int .i64) .unit))), .imm, x0⟩] (fun r i => some (r, i)) = bindO (laws_toBuf N x0) fun r => some ([⟨(.pair (.sl 2 (.int .i64)) (.pair (.int .i64) (.pair (.int .i64) .unit))), (.pr (.own .imm) .imm), r⟩], []) := by
  show _ = bindF _ _
  conv => rhs; simp only [laws_toBuf, bindF_ifB, bindF_bindO, bindF_pure, bindF_none, bindF_onSum]
  kernel_rfl
theorem laws_toBuf.ok (N : Nat) : ConOk Try.prog 17 [.one] (laws_toBuf.con N) := by
  refine conOk_mk (g := laws_toBuf.cfg N) (N := N) (res := [(false, (.pr (.own .imm) .imm))]) tys_ok (laws_toBuf.cons N) mixed Try.func17 (laws_toBuf.ls N) rfl rfl ?_
  intro ds R k y h
  cases ds with
  | nil => exact none_some h
  | cons d0 ds =>
  cases ds with
  | cons _ _ => exact none_some h
  | nil =>
  have h0 : (castDm (.pair (.sl 2 (.int .i64)) (.pair (.int .i64) (.pair (.int .i64) .unit))) .imm d0 fun x0 => bindO (laws_toBuf N x0) fun r => k [⟨(.pair (.sl 2 (.int .i64)) (.pair (.int .i64) (.pair (.int .i64) .unit))), (.pr (.own .imm) .imm), r⟩] []) = some y := h
  clear h
  obtain ⟨x0, rfl, h1⟩ := castDm_eq h0
  exact con_fin (laws_toBuf.b N x0) h1
theorem laws_toBuf.det (N : Nat) : ConDet (laws_toBuf.con N) := by
  intro ds R k y h
  cases ds with
  | nil => exact none_some h
  | cons d0 ds =>
  cases ds with
  | cons _ _ => exact none_some h
  | nil =>
  have h0 : (castDm (.pair (.sl 2 (.int .i64)) (.pair (.int .i64) (.pair (.int .i64) .unit))) .imm d0 fun x0 => bindO (laws_toBuf N x0) fun r => k [⟨(.pair (.sl 2 (.int .i64)) (.pair (.int .i64) (.pair (.int .i64) .unit))), (.pr (.own .imm) .imm), r⟩] []) = some y := h
  clear h
  obtain ⟨x0, rfl, h1⟩ := castDm_eq h0
  obtain ⟨r, e, h⟩ := bindO_some h1
  refine ⟨_, _, h, fun k' => ?_⟩
  show (castDm (.pair (.sl 2 (.int .i64)) (.pair (.int .i64) (.pair (.int .i64) .unit))) .imm (⟨(.pair (.sl 2 (.int .i64)) (.pair (.int .i64) (.pair (.int .i64) .unit))), .imm, x0⟩ : Dy) fun x0 => bindO (laws_toBuf N x0) fun r => k' [⟨(.pair (.sl 2 (.int .i64)) (.pair (.int .i64) (.pair (.int .i64) .unit))), (.pr (.own .imm) .imm), r⟩] []) = _
  simp only [castDm_self]
  rw [e]
  rfl
noncomputable def spec_l01Point.con (N : Nat) : Con := { modes := [.v], ptrs := [false], fn := fun ds k => match ds with | [d0] => castDm (.int .i64) .imm d0 fun x0 => bindO (spec_l01Point N x0) fun r => k [⟨.bool, .imm, r⟩] [] | _ => none }
noncomputable def spec_l01Point.cfg (N : Nat) : Cfg := { ty := tys, keep := [], flt := [], elm := [(22, (.own .imm)), (23, (.pr (.own .imm) .imm)), (24, (.pr (.own .imm) .imm)), (27, (.pr (.own .imm) .imm)), (34, (.own .imm)), (37, (.own .imm)), (44, (.own .imm)), (45, (.own (.own .imm))), (53, (.pr (.own (.own .imm)) (.pr .imm (.pr (.own .imm) .imm)))), (54, (.pr (.own (.own .imm)) (.pr .imm (.pr (.own .imm) .imm)))), (63, (.pr (.pr (.own (.own .imm)) (.pr .imm (.pr (.own .imm) .imm))) (.pr (.own .imm) .imm))), (64, (.pr (.pr (.own (.own .imm)) (.pr .imm (.pr (.own .imm) .imm))) (.pr (.own .imm) .imm))), (74, (.pr (.own (.own .imm)) .imm)), (75, (.pr (.own (.own .imm)) .imm)), (77, (.pr (.own (.own .imm)) .imm)), (90, (.pr (.pr (.own .imm) .imm) .imm)), (91, (.pr (.pr (.own .imm) .imm) .imm)), (96, (.own (.pr (.own .imm) .imm))), (97, (.pr (.own (.pr (.own .imm) .imm)) (.pr (.own (.pr (.own .imm) .imm)) .imm))), (98, (.pr (.own (.pr (.own .imm) .imm)) (.pr (.own (.pr (.own .imm) .imm)) .imm))), (99, (.pr (.pr (.own (.pr (.own .imm) .imm)) (.pr (.own (.pr (.own .imm) .imm)) .imm)) (.pr (.pr (.own .imm) .imm) .imm))), (100, (.pr (.pr (.own (.pr (.own .imm) .imm)) (.pr (.own (.pr (.own .imm) .imm)) .imm)) (.pr (.pr (.own .imm) .imm) .imm))), (102, (.own .imm)), (139, (.own .imm)), (142, (.own (.pr (.pr (.own .imm) .imm) .imm))), (143, (.pr .imm (.pr .imm (.pr .imm (.pr (.own (.pr (.pr (.own .imm) .imm) .imm)) (.pr .imm (.pr (.own .imm) .imm))))))), (144, (.pr .imm (.pr .imm (.pr .imm (.pr (.own (.pr (.pr (.own .imm) .imm) .imm)) (.pr .imm (.pr (.own .imm) .imm))))))), (148, (.pr (.pr (.own .imm) .imm) (.pr (.own .imm) .imm))), (149, (.pr (.pr (.own .imm) .imm) (.pr (.own .imm) .imm))), (155, (.pr (.own .imm) .imm)), (156, (.pr (.own .imm) .imm)), (176, (.own (.own (.pr (.own .imm) .imm)))), (177, (.pr .imm (.pr (.own (.own (.pr (.own .imm) .imm))) .imm))), (178, (.pr .imm (.pr (.own (.own (.pr (.own .imm) .imm))) .imm))), (197, (.pr (.own .imm) .imm)), (198, (.pr (.own .imm) .imm)), (199, (.pr (.pr (.own .imm) .imm) .imm)), (200, (.pr (.pr (.own .imm) .imm) .imm)), (201, (.own (.pr (.own .imm) .imm))), (221, (.own .imm))], live := [], ord := [], con := [], loops := [], joins := [] }
theorem spec_l01Point.cons (N : Nat) : ConsOk Try.prog (spec_l01Point.cfg N).con := consOk_nil
theorem spec_l01Point.ls (N : Nat) : LoopsOk Try.prog (spec_l01Point.cfg N) (fnBody Try.f115) := loopsL (l := []) (by kernel_rfl) trivial
theorem spec_l01Point.b (N : Nat) (x0 : den (.int .i64)) : body (spec_l01Point.cfg N) N Try.f115 [.one] [.v] [(false, .imm)] [⟨(.int .i64), .imm, x0⟩] (fun r i => some (r, i)) = bindO (spec_l01Point N x0) fun r => some ([⟨.bool, .imm, r⟩], []) := by
  show _ = bindF _ _
  conv => rhs; simp only [spec_l01Point, bindF_ifB, bindF_bindO, bindF_pure, bindF_none, bindF_onSum]
  kernel_rfl
theorem spec_l01Point.ok (N : Nat) : ConOk Try.prog 115 [.one] (spec_l01Point.con N) := by
  refine conOk_mk (g := spec_l01Point.cfg N) (N := N) (res := [(false, .imm)]) tys_ok (spec_l01Point.cons N) mixed Try.func115 (spec_l01Point.ls N) rfl rfl ?_
  intro ds R k y h
  cases ds with
  | nil => exact none_some h
  | cons d0 ds =>
  cases ds with
  | cons _ _ => exact none_some h
  | nil =>
  have h0 : (castDm (.int .i64) .imm d0 fun x0 => bindO (spec_l01Point N x0) fun r => k [⟨.bool, .imm, r⟩] []) = some y := h
  clear h
  obtain ⟨x0, rfl, h1⟩ := castDm_eq h0
  exact con_fin (spec_l01Point.b N x0) h1
theorem spec_l01Point.det (N : Nat) : ConDet (spec_l01Point.con N) := by
  intro ds R k y h
  cases ds with
  | nil => exact none_some h
  | cons d0 ds =>
  cases ds with
  | cons _ _ => exact none_some h
  | nil =>
  have h0 : (castDm (.int .i64) .imm d0 fun x0 => bindO (spec_l01Point N x0) fun r => k [⟨.bool, .imm, r⟩] []) = some y := h
  clear h
  obtain ⟨x0, rfl, h1⟩ := castDm_eq h0
  obtain ⟨r, e, h⟩ := bindO_some h1
  refine ⟨_, _, h, fun k' => ?_⟩
  show (castDm (.int .i64) .imm (⟨(.int .i64), .imm, x0⟩ : Dy) fun x0 => bindO (spec_l01Point N x0) fun r => k' [⟨.bool, .imm, r⟩] []) = _
  simp only [castDm_self]
  rw [e]
  rfl
def spec_PointsRight.sk4 : Skel := ⟨[.pv (.sl 2 (.int .i64)), .dead, .dead, .pv (.int .i64), .dead, .dead, .dead, .dead, .dead, .dead, .dead, .dead, .dead, .dead, .dead, .dead, .dead, .dead, .dead], []⟩
def spec_PointsRight.xs4 : List XS := [⟨.exit 0, [], ⟨[.dead, .dead, .dead, .dead, .dead, .dead, .dead, .dead, .dead, .dead, .dead, .dead, .dead, .dead, .dead, .dead, .dead, .dead, .dead], []⟩⟩, ⟨.ret, [2], ⟨[.dead, .dead, .pv .bool, .dead, .dead, .dead, .dead, .dead, .dead, .dead, .dead, .dead, .dead, .dead, .dead, .dead, .dead, .dead, .dead], []⟩⟩]
noncomputable def spec_PointsRight.con (N : Nat) : Con := { modes := [.v], ptrs := [false], fn := fun ds k => match ds with | [d0] => castDm (.sl 2 (.int .i64)) .imm d0 fun x0 => bindO (spec_PointsRight N x0) fun r => k [⟨.bool, .imm, r⟩] [] | _ => none }
noncomputable def spec_PointsRight.cfg (N : Nat) : Cfg := { ty := tys, keep := [17], flt := [], elm := [(22, (.own .imm)), (23, (.pr (.own .imm) .imm)), (24, (.pr (.own .imm) .imm)), (27, (.pr (.own .imm) .imm)), (34, (.own .imm)), (37, (.own .imm)), (44, (.own .imm)), (45, (.own (.own .imm))), (53, (.pr (.own (.own .imm)) (.pr .imm (.pr (.own .imm) .imm)))), (54, (.pr (.own (.own .imm)) (.pr .imm (.pr (.own .imm) .imm)))), (63, (.pr (.pr (.own (.own .imm)) (.pr .imm (.pr (.own .imm) .imm))) (.pr (.own .imm) .imm))), (64, (.pr (.pr (.own (.own .imm)) (.pr .imm (.pr (.own .imm) .imm))) (.pr (.own .imm) .imm))), (74, (.pr (.own (.own .imm)) .imm)), (75, (.pr (.own (.own .imm)) .imm)), (77, (.pr (.own (.own .imm)) .imm)), (90, (.pr (.pr (.own .imm) .imm) .imm)), (91, (.pr (.pr (.own .imm) .imm) .imm)), (96, (.own (.pr (.own .imm) .imm))), (97, (.pr (.own (.pr (.own .imm) .imm)) (.pr (.own (.pr (.own .imm) .imm)) .imm))), (98, (.pr (.own (.pr (.own .imm) .imm)) (.pr (.own (.pr (.own .imm) .imm)) .imm))), (99, (.pr (.pr (.own (.pr (.own .imm) .imm)) (.pr (.own (.pr (.own .imm) .imm)) .imm)) (.pr (.pr (.own .imm) .imm) .imm))), (100, (.pr (.pr (.own (.pr (.own .imm) .imm)) (.pr (.own (.pr (.own .imm) .imm)) .imm)) (.pr (.pr (.own .imm) .imm) .imm))), (102, (.own .imm)), (139, (.own .imm)), (142, (.own (.pr (.pr (.own .imm) .imm) .imm))), (143, (.pr .imm (.pr .imm (.pr .imm (.pr (.own (.pr (.pr (.own .imm) .imm) .imm)) (.pr .imm (.pr (.own .imm) .imm))))))), (144, (.pr .imm (.pr .imm (.pr .imm (.pr (.own (.pr (.pr (.own .imm) .imm) .imm)) (.pr .imm (.pr (.own .imm) .imm))))))), (148, (.pr (.pr (.own .imm) .imm) (.pr (.own .imm) .imm))), (149, (.pr (.pr (.own .imm) .imm) (.pr (.own .imm) .imm))), (155, (.pr (.own .imm) .imm)), (156, (.pr (.own .imm) .imm)), (176, (.own (.own (.pr (.own .imm) .imm)))), (177, (.pr .imm (.pr (.own (.own (.pr (.own .imm) .imm))) .imm))), (178, (.pr .imm (.pr (.own (.own (.pr (.own .imm) .imm))) .imm))), (197, (.pr (.own .imm) .imm)), (198, (.pr (.own .imm) .imm)), (199, (.pr (.pr (.own .imm) .imm) .imm)), (200, (.pr (.pr (.own .imm) .imm) .imm)), (201, (.own (.pr (.own .imm) .imm))), (221, (.own .imm))], live := [(4, [0, 3])], ord := [], con := [((115, [.one]), spec_l01Point.con N)], loops := [(4, loopCon N spec_PointsRight.sk4 spec_PointsRight.xs4 (fun {R} => spec_PointsRight.l4 (R := R) N))], joins := [] }
theorem spec_PointsRight.cons (N : Nat) : ConsOk Try.prog (spec_PointsRight.cfg N).con := (consOk_cons (hb115) (spec_l01Point.ok N) (spec_l01Point.det N) consOk_nil)
theorem spec_PointsRight.h4 {R : Type} (N : Nat) (d : spec_PointsRight.sk4.D) (kn : spec_PointsRight.sk4.D → Option R) (kx : XD spec_PointsRight.xs4 → Option R) : roundK (spec_PointsRight.cfg N) N (nthLoop (fnBody Try.f46) 0) spec_PointsRight.sk4 spec_PointsRight.xs4 d kn kx = spec_PointsRight.l4 N d kn kx := by kernel_rfl
theorem spec_PointsRight.i4 (N : Nat) : LoopsOk Try.prog (spec_PointsRight.cfg N) (nthLoop (fnBody Try.f46) 0) := loopsL (l := []) (by kernel_rfl) trivial
theorem spec_PointsRight.o4 (N : Nat) : LoopOk Try.prog (nthLoop (fnBody Try.f46) 0) (loopCon N spec_PointsRight.sk4 spec_PointsRight.xs4 (fun {R} => spec_PointsRight.l4 (R := R) N)) := loop_ok (g := spec_PointsRight.cfg N) tys_ok (spec_PointsRight.cons N) mixed (spec_PointsRight.i4 N) (fun d kn kx => spec_PointsRight.h4 N d kn kx)
theorem spec_PointsRight.ls (N : Nat) : LoopsOk Try.prog (spec_PointsRight.cfg N) (fnBody Try.f46) := loopsL (l := [nthLoop (fnBody Try.f46) 0]) (by kernel_rfl) ⟨loopOne (L0 := loopCon N spec_PointsRight.sk4 spec_PointsRight.xs4 (fun {R} => spec_PointsRight.l4 (R := R) N)) (id := 4) (by kernel_rfl) (by kernel_rfl) (spec_PointsRight.o4 N), trivial⟩
theorem spec_PointsRight.q4 {R R' : Type} {N n : Nat} {d} {k} {g : R → Option R'} : bindF (loopP (spec_PointsRight.l4 N) n d k) g = loopP (spec_PointsRight.l4 N) n d fun e => bindF (k e) g := bindF_loopP (fun d kn kx => by simp only [spec_PointsRight.l4, bindF_ifB, bindF_bindO, bindF_pure, bindF_none, bindF_onSum]) n d k
theorem spec_PointsRight.b (N : Nat) (x0 : den (.sl 2 (.int .i64))) : body (spec_PointsRight.cfg N) N Try.f46 [.one] [.v] [(false, .imm)] [⟨(.sl 2 (.int .i64)), .imm, x0⟩] (fun r i => some (r, i)) = bindO (spec_PointsRight N x0) fun r => some ([⟨.bool, .imm, r⟩], []) := by
  show _ = bindF _ _
  conv => rhs; simp only [spec_PointsRight, bindF_ifB, bindF_bindO, bindF_pure, bindF_none, bindF_onSum, spec_PointsRight.q4]
  kernel_rfl
theorem spec_PointsRight.ok (N : Nat) : ConOk Try.prog 46 [.one] (spec_PointsRight.con N) := by
  refine conOk_mk (g := spec_PointsRight.cfg N) (N := N) (res := [(false, .imm)]) tys_ok (spec_PointsRight.cons N) mixed Try.func46 (spec_PointsRight.ls N) rfl rfl ?_
  intro ds R k y h
  cases ds with
  | nil => exact none_some h
  | cons d0 ds =>
  cases ds with
  | cons _ _ => exact none_some h
  | nil =>
  have h0 : (castDm (.sl 2 (.int .i64)) .imm d0 fun x0 => bindO (spec_PointsRight N x0) fun r => k [⟨.bool, .imm, r⟩] []) = some y := h
  clear h
  obtain ⟨x0, rfl, h1⟩ := castDm_eq h0
  exact con_fin (spec_PointsRight.b N x0) h1
theorem spec_PointsRight.det (N : Nat) : ConDet (spec_PointsRight.con N) := by
  intro ds R k y h
  cases ds with
  | nil => exact none_some h
  | cons d0 ds =>
  cases ds with
  | cons _ _ => exact none_some h
  | nil =>
  have h0 : (castDm (.sl 2 (.int .i64)) .imm d0 fun x0 => bindO (spec_PointsRight N x0) fun r => k [⟨.bool, .imm, r⟩] []) = some y := h
  clear h
  obtain ⟨x0, rfl, h1⟩ := castDm_eq h0
  obtain ⟨r, e, h⟩ := bindO_some h1
  refine ⟨_, _, h, fun k' => ?_⟩
  show (castDm (.sl 2 (.int .i64)) .imm (⟨(.sl 2 (.int .i64)), .imm, x0⟩ : Dy) fun x0 => bindO (spec_PointsRight N x0) fun r => k' [⟨.bool, .imm, r⟩] []) = _
  simp only [castDm_self]
  rw [e]
  rfl
noncomputable def spec_BufRight.con (N : Nat) : Con := { modes := [.v], ptrs := [false], fn := fun ds k => match ds with | [d0] => castDm (.pair (.sl 2 (.int .i64)) (.pair (.int .i64) (.pair (.int .i64) .unit))) .imm d0 fun x0 => bindO (spec_BufRight N x0) fun r => k [⟨.bool, .imm, r⟩] [] | _ => none }
noncomputable def spec_BufRight.cfg (N : Nat) : Cfg := { ty := tys, keep := [9], flt := [], elm := [(22, (.own .imm)), (23, (.pr (.own .imm) .imm)), (24, (.pr (.own .imm) .imm)), (27, (.pr (.own .imm) .imm)), (34, (.own .imm)), (37, (.own .imm)), (44, (.own .imm)), (45, (.own (.own .imm))), (53, (.pr (.own (.own .imm)) (.pr .imm (.pr (.own .imm) .imm)))), (54, (.pr (.own (.own .imm)) (.pr .imm (.pr (.own .imm) .imm)))), (63, (.pr (.pr (.own (.own .imm)) (.pr .imm (.pr (.own .imm) .imm))) (.pr (.own .imm) .imm))), (64, (.pr (.pr (.own (.own .imm)) (.pr .imm (.pr (.own .imm) .imm))) (.pr (.own .imm) .imm))), (74, (.pr (.own (.own .imm)) .imm)), (75, (.pr (.own (.own .imm)) .imm)), (77, (.pr (.own (.own .imm)) .imm)), (90, (.pr (.pr (.own .imm) .imm) .imm)), (91, (.pr (.pr (.own .imm) .imm) .imm)), (96, (.own (.pr (.own .imm) .imm))), (97, (.pr (.own (.pr (.own .imm) .imm)) (.pr (.own (.pr (.own .imm) .imm)) .imm))), (98, (.pr (.own (.pr (.own .imm) .imm)) (.pr (.own (.pr (.own .imm) .imm)) .imm))), (99, (.pr (.pr (.own (.pr (.own .imm) .imm)) (.pr (.own (.pr (.own .imm) .imm)) .imm)) (.pr (.pr (.own .imm) .imm) .imm))), (100, (.pr (.pr (.own (.pr (.own .imm) .imm)) (.pr (.own (.pr (.own .imm) .imm)) .imm)) (.pr (.pr (.own .imm) .imm) .imm))), (102, (.own .imm)), (139, (.own .imm)), (142, (.own (.pr (.pr (.own .imm) .imm) .imm))), (143, (.pr .imm (.pr .imm (.pr .imm (.pr (.own (.pr (.pr (.own .imm) .imm) .imm)) (.pr .imm (.pr (.own .imm) .imm))))))), (144, (.pr .imm (.pr .imm (.pr .imm (.pr (.own (.pr (.pr (.own .imm) .imm) .imm)) (.pr .imm (.pr (.own .imm) .imm))))))), (148, (.pr (.pr (.own .imm) .imm) (.pr (.own .imm) .imm))), (149, (.pr (.pr (.own .imm) .imm) (.pr (.own .imm) .imm))), (155, (.pr (.own .imm) .imm)), (156, (.pr (.own .imm) .imm)), (176, (.own (.own (.pr (.own .imm) .imm)))), (177, (.pr .imm (.pr (.own (.own (.pr (.own .imm) .imm))) .imm))), (178, (.pr .imm (.pr (.own (.own (.pr (.own .imm) .imm))) .imm))), (197, (.pr (.own .imm) .imm)), (198, (.pr (.own .imm) .imm)), (199, (.pr (.pr (.own .imm) .imm) .imm)), (200, (.pr (.pr (.own .imm) .imm) .imm)), (201, (.own (.pr (.own .imm) .imm))), (221, (.own .imm))], live := [], ord := [], con := [((46, [.one]), spec_PointsRight.con N)], loops := [], joins := [] }
theorem spec_BufRight.cons (N : Nat) : ConsOk Try.prog (spec_BufRight.cfg N).con := (consOk_cons (hb46) (spec_PointsRight.ok N) (spec_PointsRight.det N) consOk_nil)
theorem spec_BufRight.ls (N : Nat) : LoopsOk Try.prog (spec_BufRight.cfg N) (fnBody Try.f88) := loopsL (l := []) (by kernel_rfl) trivial
theorem spec_BufRight.b (N : Nat) (x0 : den (.pair (.sl 2 (.int .i64)) (.pair (.int .i64) (.pair (.int .i64) .unit)))) : body (spec_BufRight.cfg N) N Try.f88 [.one] [.v] [(false, .imm)] [⟨(.pair (.sl 2 (.int .i64)) (.pair (.int .i64) (.pair (.int .i64) .unit))), .imm, x0⟩] (fun r i => some (r, i)) = bindO (spec_BufRight N x0) fun r => some ([⟨.bool, .imm, r⟩], []) := by
  show _ = bindF _ _
  conv => rhs; simp only [spec_BufRight, bindF_ifB, bindF_bindO, bindF_pure, bindF_none, bindF_onSum]
  kernel_rfl
theorem spec_BufRight.ok (N : Nat) : ConOk Try.prog 88 [.one] (spec_BufRight.con N) := by
  refine conOk_mk (g := spec_BufRight.cfg N) (N := N) (res := [(false, .imm)]) tys_ok (spec_BufRight.cons N) mixed Try.func88 (spec_BufRight.ls N) rfl rfl ?_
  intro ds R k y h
  cases ds with
  | nil => exact none_some h
  | cons d0 ds =>
  cases ds with
  | cons _ _ => exact none_some h
  | nil =>
  have h0 : (castDm (.pair (.sl 2 (.int .i64)) (.pair (.int .i64) (.pair (.int .i64) .unit))) .imm d0 fun x0 => bindO (spec_BufRight N x0) fun r => k [⟨.bool, .imm, r⟩] []) = some y := h
  clear h
  obtain ⟨x0, rfl, h1⟩ := castDm_eq h0
  exact con_fin (spec_BufRight.b N x0) h1
theorem spec_BufRight.det (N : Nat) : ConDet (spec_BufRight.con N) := by
  intro ds R k y h
  cases ds with
  | nil => exact none_some h
  | cons d0 ds =>
  cases ds with
  | cons _ _ => exact none_some h
  | nil =>
  have h0 : (castDm (.pair (.sl 2 (.int .i64)) (.pair (.int .i64) (.pair (.int .i64) .unit))) .imm d0 fun x0 => bindO (spec_BufRight N x0) fun r => k [⟨.bool, .imm, r⟩] []) = some y := h
  clear h
  obtain ⟨x0, rfl, h1⟩ := castDm_eq h0
  obtain ⟨r, e, h⟩ := bindO_some h1
  refine ⟨_, _, h, fun k' => ?_⟩
  show (castDm (.pair (.sl 2 (.int .i64)) (.pair (.int .i64) (.pair (.int .i64) .unit))) .imm (⟨(.pair (.sl 2 (.int .i64)) (.pair (.int .i64) (.pair (.int .i64) .unit))), .imm, x0⟩ : Dy) fun x0 => bindO (spec_BufRight N x0) fun r => k' [⟨.bool, .imm, r⟩] []) = _
  simp only [castDm_self]
  rw [e]
  rfl
noncomputable def spec_ClassOf.con (N : Nat) : Con := { modes := [.v], ptrs := [false], fn := fun ds k => match ds with | [d0] => castDm (.int .i64) .imm d0 fun x0 => bindO (spec_ClassOf N x0) fun r => k [⟨(.int .i64), .imm, r⟩] [] | _ => none }
noncomputable def spec_ClassOf.cfg (N : Nat) : Cfg := { ty := tys, keep := [4], flt := [], elm := [(22, (.own .imm)), (23, (.pr (.own .imm) .imm)), (24, (.pr (.own .imm) .imm)), (27, (.pr (.own .imm) .imm)), (34, (.own .imm)), (37, (.own .imm)), (44, (.own .imm)), (45, (.own (.own .imm))), (53, (.pr (.own (.own .imm)) (.pr .imm (.pr (.own .imm) .imm)))), (54, (.pr (.own (.own .imm)) (.pr .imm (.pr (.own .imm) .imm)))), (63, (.pr (.pr (.own (.own .imm)) (.pr .imm (.pr (.own .imm) .imm))) (.pr (.own .imm) .imm))), (64, (.pr (.pr (.own (.own .imm)) (.pr .imm (.pr (.own .imm) .imm))) (.pr (.own .imm) .imm))), (74, (.pr (.own (.own .imm)) .imm)), (75, (.pr (.own (.own .imm)) .imm)), (77, (.pr (.own (.own .imm)) .imm)), (90, (.pr (.pr (.own .imm) .imm) .imm)), (91, (.pr (.pr (.own .imm) .imm) .imm)), (96, (.own (.pr (.own .imm) .imm))), (97, (.pr (.own (.pr (.own .imm) .imm)) (.pr (.own (.pr (.own .imm) .imm)) .imm))), (98, (.pr (.own (.pr (.own .imm) .imm)) (.pr (.own (.pr (.own .imm) .imm)) .imm))), (99, (.pr (.pr (.own (.pr (.own .imm) .imm)) (.pr (.own (.pr (.own .imm) .imm)) .imm)) (.pr (.pr (.own .imm) .imm) .imm))), (100, (.pr (.pr (.own (.pr (.own .imm) .imm)) (.pr (.own (.pr (.own .imm) .imm)) .imm)) (.pr (.pr (.own .imm) .imm) .imm))), (102, (.own .imm)), (139, (.own .imm)), (142, (.own (.pr (.pr (.own .imm) .imm) .imm))), (143, (.pr .imm (.pr .imm (.pr .imm (.pr (.own (.pr (.pr (.own .imm) .imm) .imm)) (.pr .imm (.pr (.own .imm) .imm))))))), (144, (.pr .imm (.pr .imm (.pr .imm (.pr (.own (.pr (.pr (.own .imm) .imm) .imm)) (.pr .imm (.pr (.own .imm) .imm))))))), (148, (.pr (.pr (.own .imm) .imm) (.pr (.own .imm) .imm))), (149, (.pr (.pr (.own .imm) .imm) (.pr (.own .imm) .imm))), (155, (.pr (.own .imm) .imm)), (156, (.pr (.own .imm) .imm)), (176, (.own (.own (.pr (.own .imm) .imm)))), (177, (.pr .imm (.pr (.own (.own (.pr (.own .imm) .imm))) .imm))), (178, (.pr .imm (.pr (.own (.own (.pr (.own .imm) .imm))) .imm))), (197, (.pr (.own .imm) .imm)), (198, (.pr (.own .imm) .imm)), (199, (.pr (.pr (.own .imm) .imm) .imm)), (200, (.pr (.pr (.own .imm) .imm) .imm)), (201, (.own (.pr (.own .imm) .imm))), (221, (.own .imm))], live := [], ord := [], con := [((115, [.one]), spec_l01Point.con N)], loops := [], joins := [] }
theorem spec_ClassOf.cons (N : Nat) : ConsOk Try.prog (spec_ClassOf.cfg N).con := (consOk_cons (hb115) (spec_l01Point.ok N) (spec_l01Point.det N) consOk_nil)
theorem spec_ClassOf.ls (N : Nat) : LoopsOk Try.prog (spec_ClassOf.cfg N) (fnBody Try.f109) := loopsL (l := []) (by kernel_rfl) trivial
theorem spec_ClassOf.b (N : Nat) (x0 : den (.int .i64)) : body (spec_ClassOf.cfg N) N Try.f109 [.one] [.v] [(false, .imm)] [⟨(.int .i64), .imm, x0⟩] (fun r i => some (r, i)) = bindO (spec_ClassOf N x0) fun r => some ([⟨(.int .i64), .imm, r⟩], []) := by
  show _ = bindF _ _
  conv => rhs; simp only [spec_ClassOf, bindF_ifB, bindF_bindO, bindF_pure, bindF_none, bindF_onSum]
  kernel_rfl
theorem spec_ClassOf.ok (N : Nat) : ConOk Try.prog 109 [.one] (spec_ClassOf.con N) := by
  refine conOk_mk (g := spec_ClassOf.cfg N) (N := N) (res := [(false, .imm)]) tys_ok (spec_ClassOf.cons N) mixed Try.func109 (spec_ClassOf.ls N) rfl rfl ?_
  intro ds R k y h
  cases ds with
  | nil => exact none_some h
  | cons d0 ds =>
  cases ds with
  | cons _ _ => exact none_some h
  | nil =>
  have h0 : (castDm (.int .i64) .imm d0 fun x0 => bindO (spec_ClassOf N x0) fun r => k [⟨(.int .i64), .imm, r⟩] []) = some y := h
  clear h
  obtain ⟨x0, rfl, h1⟩ := castDm_eq h0
  exact con_fin (spec_ClassOf.b N x0) h1
theorem spec_ClassOf.det (N : Nat) : ConDet (spec_ClassOf.con N) := by
  intro ds R k y h
  cases ds with
  | nil => exact none_some h
  | cons d0 ds =>
  cases ds with
  | cons _ _ => exact none_some h
  | nil =>
  have h0 : (castDm (.int .i64) .imm d0 fun x0 => bindO (spec_ClassOf N x0) fun r => k [⟨(.int .i64), .imm, r⟩] []) = some y := h
  clear h
  obtain ⟨x0, rfl, h1⟩ := castDm_eq h0
  obtain ⟨r, e, h⟩ := bindO_some h1
  refine ⟨_, _, h, fun k' => ?_⟩
  show (castDm (.int .i64) .imm (⟨(.int .i64), .imm, x0⟩ : Dy) fun x0 => bindO (spec_ClassOf N x0) fun r => k' [⟨(.int .i64), .imm, r⟩] []) = _
  simp only [castDm_self]
  rw [e]
  rfl
def spec_l15Word.sk2 : Skel := ⟨[.dead, .ptr 50 [], .dead, .pv (.int .i64), .dead, .dead, .dead, .dead, .dead, .dead, .dead, .dead, .dead, .dead, .dead, .dead, .dead, .dead, .dead, .dead, .dead], [⟨50, (.pair (.sl 2 (.int .i64)) (.pair (.int .i64) (.pair (.int .i64) .unit))), .imm, true, false⟩]⟩
def spec_l15Word.xs2 : List XS := [⟨.exit 0, [3], ⟨[.dead, .dead, .dead, .pv (.int .i64), .dead, .dead, .dead, .dead, .dead, .dead, .dead, .dead, .dead, .dead, .dead, .dead, .dead, .dead, .dead, .dead, .dead], []⟩⟩]
noncomputable def spec_l15Word.con (N : Nat) : Con := { modes := [.v], ptrs := [false], fn := fun ds k => match ds with | [d0] => castDm (.pair (.sl 2 (.int .i64)) (.pair (.int .i64) (.pair (.int .i64) .unit))) .imm d0 fun x0 => bindO (spec_l15Word N x0) fun r => k [⟨(.int .i64), .imm, r⟩] [] | _ => none }
noncomputable def spec_l15Word.cfg (N : Nat) : Cfg := { ty := tys, keep := [15], flt := [], elm := [(22, (.own .imm)), (23, (.pr (.own .imm) .imm)), (24, (.pr (.own .imm) .imm)), (27, (.pr (.own .imm) .imm)), (34, (.own .imm)), (37, (.own .imm)), (44, (.own .imm)), (45, (.own (.own .imm))), (53, (.pr (.own (.own .imm)) (.pr .imm (.pr (.own .imm) .imm)))), (54, (.pr (.own (.own .imm)) (.pr .imm (.pr (.own .imm) .imm)))), (63, (.pr (.pr (.own (.own .imm)) (.pr .imm (.pr (.own .imm) .imm))) (.pr (.own .imm) .imm))), (64, (.pr (.pr (.own (.own .imm)) (.pr .imm (.pr (.own .imm) .imm))) (.pr (.own .imm) .imm))), (74, (.pr (.own (.own .imm)) .imm)), (75, (.pr (.own (.own .imm)) .imm)), (77, (.pr (.own (.own .imm)) .imm)), (90, (.pr (.pr (.own .imm) .imm) .imm)), (91, (.pr (.pr (.own .imm) .imm) .imm)), (96, (.own (.pr (.own .imm) .imm))), (97, (.pr (.own (.pr (.own .imm) .imm)) (.pr (.own (.pr (.own .imm) .imm)) .imm))), (98, (.pr (.own (.pr (.own .imm) .imm)) (.pr (.own (.pr (.own .imm) .imm)) .imm))), (99, (.pr (.pr (.own (.pr (.own .imm) .imm)) (.pr (.own (.pr (.own .imm) .imm)) .imm)) (.pr (.pr (.own .imm) .imm) .imm))), (100, (.pr (.pr (.own (.pr (.own .imm) .imm)) (.pr (.own (.pr (.own .imm) .imm)) .imm)) (.pr (.pr (.own .imm) .imm) .imm))), (102, (.own .imm)), (139, (.own .imm)), (142, (.own (.pr (.pr (.own .imm) .imm) .imm))), (143, (.pr .imm (.pr .imm (.pr .imm (.pr (.own (.pr (.pr (.own .imm) .imm) .imm)) (.pr .imm (.pr (.own .imm) .imm))))))), (144, (.pr .imm (.pr .imm (.pr .imm (.pr (.own (.pr (.pr (.own .imm) .imm) .imm)) (.pr .imm (.pr (.own .imm) .imm))))))), (148, (.pr (.pr (.own .imm) .imm) (.pr (.own .imm) .imm))), (149, (.pr (.pr (.own .imm) .imm) (.pr (.own .imm) .imm))), (155, (.pr (.own .imm) .imm)), (156, (.pr (.own .imm) .imm)), (176, (.own (.own (.pr (.own .imm) .imm)))), (177, (.pr .imm (.pr (.own (.own (.pr (.own .imm) .imm))) .imm))), (178, (.pr .imm (.pr (.own (.own (.pr (.own .imm) .imm))) .imm))), (197, (.pr (.own .imm) .imm)), (198, (.pr (.own .imm) .imm)), (199, (.pr (.pr (.own .imm) .imm) .imm)), (200, (.pr (.pr (.own .imm) .imm) .imm)), (201, (.own (.pr (.own .imm) .imm))), (221, (.own .imm))], live := [(2, [1, 3, 9, 10, 11, 12, 13, 14, 15, 16])], ord := [], con := [((109, [.one]), spec_ClassOf.con N)], loops := [(2, loopCon N spec_l15Word.sk2 spec_l15Word.xs2 (fun {R} => spec_l15Word.l2 (R := R) N))], joins := [] }
theorem spec_l15Word.cons (N : Nat) : ConsOk Try.prog (spec_l15Word.cfg N).con := (consOk_cons (hb109) (spec_ClassOf.ok N) (spec_ClassOf.det N) consOk_nil)
theorem spec_l15Word.h2 {R : Type} (N : Nat) (d : spec_l15Word.sk2.D) (kn : spec_l15Word.sk2.D → Option R) (kx : XD spec_l15Word.xs2 → Option R) : roundK (spec_l15Word.cfg N) N (nthLoop (fnBody Try.f90) 0) spec_l15Word.sk2 spec_l15Word.xs2 d kn kx = spec_l15Word.l2 N d kn kx := by kernel_rfl
theorem spec_l15Word.i2 (N : Nat) : LoopsOk Try.prog (spec_l15Word.cfg N) (nthLoop (fnBody Try.f90) 0) := loopsL (l := []) (by kernel_rfl) trivial
theorem spec_l15Word.o2 (N : Nat) : LoopOk Try.prog (nthLoop (fnBody Try.f90) 0) (loopCon N spec_l15Word.sk2 spec_l15Word.xs2 (fun {R} => spec_l15Word.l2 (R := R) N)) := loop_ok (g := spec_l15Word.cfg N) tys_ok (spec_l15Word.cons N) mixed (spec_l15Word.i2 N) (fun d kn kx => spec_l15Word.h2 N d kn kx)
theorem spec_l15Word.ls (N : Nat) : LoopsOk Try.prog (spec_l15Word.cfg N) (fnBody Try.f90) := loopsL (l := [nthLoop (fnBody Try.f90) 0]) (by kernel_rfl) ⟨loopOne (L0 := loopCon N spec_l15Word.sk2 spec_l15Word.xs2 (fun {R} => spec_l15Word.l2 (R := R) N)) (id := 2) (by kernel_rfl) (by kernel_rfl) (spec_l15Word.o2 N), trivial⟩
theorem spec_l15Word.q2 {R R' : Type} {N n : Nat} {d} {k} {g : R → Option R'} : bindF (loopP (spec_l15Word.l2 N) n d k) g = loopP (spec_l15Word.l2 N) n d fun e => bindF (k e) g := bindF_loopP (fun d kn kx => by simp only [spec_l15Word.l2, bindF_ifB, bindF_bindO, bindF_pure, bindF_none, bindF_onSum]) n d k
theorem spec_l15Word.b (N : Nat) (x0 : den (.pair (.sl 2 (.int .i64)) (.pair (.int .i64) (.pair (.int .i64) .unit)))) : body (spec_l15Word.cfg N) N Try.f90 [.one] [.v] [(false, .imm)] [⟨(.pair (.sl 2 (.int .i64)) (.pair (.int .i64) (.pair (.int .i64) .unit))), .imm, x0⟩] (fun r i => some (r, i)) = bindO (spec_l15Word N x0) fun r => some ([⟨(.int .i64), .imm, r⟩], []) := by
  show _ = bindF _ _
  conv => rhs; simp only [spec_l15Word, bindF_ifB, bindF_bindO, bindF_pure, bindF_none, bindF_onSum, spec_l15Word.q2]
  kernel_rfl
theorem spec_l15Word.ok (N : Nat) : ConOk Try.prog 90 [.one] (spec_l15Word.con N) := by
  refine conOk_mk (g := spec_l15Word.cfg N) (N := N) (res := [(false, .imm)]) tys_ok (spec_l15Word.cons N) mixed Try.func90 (spec_l15Word.ls N) rfl rfl ?_
  intro ds R k y h
  cases ds with
  | nil => exact none_some h
  | cons d0 ds =>
  cases ds with
  | cons _ _ => exact none_some h
  | nil =>
  have h0 : (castDm (.pair (.sl 2 (.int .i64)) (.pair (.int .i64) (.pair (.int .i64) .unit))) .imm d0 fun x0 => bindO (spec_l15Word N x0) fun r => k [⟨(.int .i64), .imm, r⟩] []) = some y := h
  clear h
  obtain ⟨x0, rfl, h1⟩ := castDm_eq h0
  exact con_fin (spec_l15Word.b N x0) h1
theorem spec_l15Word.det (N : Nat) : ConDet (spec_l15Word.con N) := by
  intro ds R k y h
  cases ds with
  | nil => exact none_some h
  | cons d0 ds =>
  cases ds with
  | cons _ _ => exact none_some h
  | nil =>
  have h0 : (castDm (.pair (.sl 2 (.int .i64)) (.pair (.int .i64) (.pair (.int .i64) .unit))) .imm d0 fun x0 => bindO (spec_l15Word N x0) fun r => k [⟨(.int .i64), .imm, r⟩] []) = some y := h
  clear h
  obtain ⟨x0, rfl, h1⟩ := castDm_eq h0
  obtain ⟨r, e, h⟩ := bindO_some h1
  refine ⟨_, _, h, fun k' => ?_⟩
  show (castDm (.pair (.sl 2 (.int .i64)) (.pair (.int .i64) (.pair (.int .i64) .unit))) .imm (⟨(.pair (.sl 2 (.int .i64)) (.pair (.int .i64) (.pair (.int .i64) .unit))), .imm, x0⟩ : Dy) fun x0 => bindO (spec_l15Word N x0) fun r => k' [⟨(.int .i64), .imm, r⟩] []) = _
  simp only [castDm_self]
  rw [e]
  rfl
noncomputable def spec_l01Copy.con (N : Nat) : Con := { modes := [.v], ptrs := [false], fn := fun ds k => match ds with | [d0] => castDm (.sl 2 (.int .i64)) .imm d0 fun x0 => bindO (spec_l01Copy N x0) fun r => k [⟨(.sl 2 (.int .i64)), (.own .imm), r⟩] [] | _ => none }
noncomputable def spec_l01Copy.cfg (N : Nat) : Cfg := { ty := tys, keep := [], flt := [], elm := [(22, (.own .imm)), (23, (.pr (.own .imm) .imm)), (24, (.pr (.own .imm) .imm)), (27, (.pr (.own .imm) .imm)), (34, (.own .imm)), (37, (.own .imm)), (44, (.own .imm)), (45, (.own (.own .imm))), (53, (.pr (.own (.own .imm)) (.pr .imm (.pr (.own .imm) .imm)))), (54, (.pr (.own (.own .imm)) (.pr .imm (.pr (.own .imm) .imm)))), (63, (.pr (.pr (.own (.own .imm)) (.pr .imm (.pr (.own .imm) .imm))) (.pr (.own .imm) .imm))), (64, (.pr (.pr (.own (.own .imm)) (.pr .imm (.pr (.own .imm) .imm))) (.pr (.own .imm) .imm))), (74, (.pr (.own (.own .imm)) .imm)), (75, (.pr (.own (.own .imm)) .imm)), (77, (.pr (.own (.own .imm)) .imm)), (90, (.pr (.pr (.own .imm) .imm) .imm)), (91, (.pr (.pr (.own .imm) .imm) .imm)), (96, (.own (.pr (.own .imm) .imm))), (97, (.pr (.own (.pr (.own .imm) .imm)) (.pr (.own (.pr (.own .imm) .imm)) .imm))), (98, (.pr (.own (.pr (.own .imm) .imm)) (.pr (.own (.pr (.own .imm) .imm)) .imm))), (99, (.pr (.pr (.own (.pr (.own .imm) .imm)) (.pr (.own (.pr (.own .imm) .imm)) .imm)) (.pr (.pr (.own .imm) .imm) .imm))), (100, (.pr (.pr (.own (.pr (.own .imm) .imm)) (.pr (.own (.pr (.own .imm) .imm)) .imm)) (.pr (.pr (.own .imm) .imm) .imm))), (102, (.own .imm)), (139, (.own .imm)), (142, (.own (.pr (.pr (.own .imm) .imm) .imm))), (143, (.pr .imm (.pr .imm (.pr .imm (.pr (.own (.pr (.pr (.own .imm) .imm) .imm)) (.pr .imm (.pr (.own .imm) .imm))))))), (144, (.pr .imm (.pr .imm (.pr .imm (.pr (.own (.pr (.pr (.own .imm) .imm) .imm)) (.pr .imm (.pr (.own .imm) .imm))))))), (148, (.pr (.pr (.own .imm) .imm) (.pr (.own .imm) .imm))), (149, (.pr (.pr (.own .imm) .imm) (.pr (.own .imm) .imm))), (155, (.pr (.own .imm) .imm)), (156, (.pr (.own .imm) .imm)), (176, (.own (.own (.pr (.own .imm) .imm)))), (177, (.pr .imm (.pr (.own (.own (.pr (.own .imm) .imm))) .imm))), (178, (.pr .imm (.pr (.own (.own (.pr (.own .imm) .imm))) .imm))), (197, (.pr (.own .imm) .imm)), (198, (.pr (.own .imm) .imm)), (199, (.pr (.pr (.own .imm) .imm) .imm)), (200, (.pr (.pr (.own .imm) .imm) .imm)), (201, (.own (.pr (.own .imm) .imm))), (221, (.own .imm))], live := [], ord := [], con := [], loops := [], joins := [] }
theorem spec_l01Copy.cons (N : Nat) : ConsOk Try.prog (spec_l01Copy.cfg N).con := consOk_nil
theorem spec_l01Copy.ls (N : Nat) : LoopsOk Try.prog (spec_l01Copy.cfg N) (fnBody Try.f89) := loopsL (l := []) (by kernel_rfl) trivial
theorem spec_l01Copy.b (N : Nat) (x0 : den (.sl 2 (.int .i64))) : body (spec_l01Copy.cfg N) N Try.f89 [.one] [.v] [(false, (.own .imm))] [⟨(.sl 2 (.int .i64)), .imm, x0⟩] (fun r i => some (r, i)) = bindO (spec_l01Copy N x0) fun r => some ([⟨(.sl 2 (.int .i64)), (.own .imm), r⟩], []) := by
  show _ = bindF _ _
  conv => rhs; simp only [spec_l01Copy, bindF_ifB, bindF_bindO, bindF_pure, bindF_none, bindF_onSum]
  kernel_rfl
theorem spec_l01Copy.ok (N : Nat) : ConOk Try.prog 89 [.one] (spec_l01Copy.con N) := by
  refine conOk_mk (g := spec_l01Copy.cfg N) (N := N) (res := [(false, (.own .imm))]) tys_ok (spec_l01Copy.cons N) mixed Try.func89 (spec_l01Copy.ls N) rfl rfl ?_
  intro ds R k y h
  cases ds with
  | nil => exact none_some h
  | cons d0 ds =>
  cases ds with
  | cons _ _ => exact none_some h
  | nil =>
  have h0 : (castDm (.sl 2 (.int .i64)) .imm d0 fun x0 => bindO (spec_l01Copy N x0) fun r => k [⟨(.sl 2 (.int .i64)), (.own .imm), r⟩] []) = some y := h
  clear h
  obtain ⟨x0, rfl, h1⟩ := castDm_eq h0
  exact con_fin (spec_l01Copy.b N x0) h1
theorem spec_l01Copy.det (N : Nat) : ConDet (spec_l01Copy.con N) := by
  intro ds R k y h
  cases ds with
  | nil => exact none_some h
  | cons d0 ds =>
  cases ds with
  | cons _ _ => exact none_some h
  | nil =>
  have h0 : (castDm (.sl 2 (.int .i64)) .imm d0 fun x0 => bindO (spec_l01Copy N x0) fun r => k [⟨(.sl 2 (.int .i64)), (.own .imm), r⟩] []) = some y := h
  clear h
  obtain ⟨x0, rfl, h1⟩ := castDm_eq h0
  obtain ⟨r, e, h⟩ := bindO_some h1
  refine ⟨_, _, h, fun k' => ?_⟩
  show (castDm (.sl 2 (.int .i64)) .imm (⟨(.sl 2 (.int .i64)), .imm, x0⟩ : Dy) fun x0 => bindO (spec_l01Copy N x0) fun r => k' [⟨(.sl 2 (.int .i64)), (.own .imm), r⟩] []) = _
  simp only [castDm_self]
  rw [e]
  rfl
noncomputable def spec_WordAhead.con (N : Nat) : Con := { modes := [.v], ptrs := [false], fn := fun ds k => match ds with | [d0] => castDm (.pair (.sl 2 (.int .i64)) (.pair (.int .i64) (.pair (.int .i64) .unit))) .imm d0 fun x0 => bindO (spec_WordAhead N x0) fun r => k [⟨(.sl 2 (.int .i64)), (.own .imm), r⟩] [] | _ => none }
noncomputable def spec_WordAhead.cfg (N : Nat) : Cfg := { ty := tys, keep := [4, 10, 14], flt := [], elm := [(22, (.own .imm)), (23, (.pr (.own .imm) .imm)), (24, (.pr (.own .imm) .imm)), (27, (.pr (.own .imm) .imm)), (34, (.own .imm)), (37, (.own .imm)), (44, (.own .imm)), (45, (.own (.own .imm))), (53, (.pr (.own (.own .imm)) (.pr .imm (.pr (.own .imm) .imm)))), (54, (.pr (.own (.own .imm)) (.pr .imm (.pr (.own .imm) .imm)))), (63, (.pr (.pr (.own (.own .imm)) (.pr .imm (.pr (.own .imm) .imm))) (.pr (.own .imm) .imm))), (64, (.pr (.pr (.own (.own .imm)) (.pr .imm (.pr (.own .imm) .imm))) (.pr (.own .imm) .imm))), (74, (.pr (.own (.own .imm)) .imm)), (75, (.pr (.own (.own .imm)) .imm)), (77, (.pr (.own (.own .imm)) .imm)), (90, (.pr (.pr (.own .imm) .imm) .imm)), (91, (.pr (.pr (.own .imm) .imm) .imm)), (96, (.own (.pr (.own .imm) .imm))), (97, (.pr (.own (.pr (.own .imm) .imm)) (.pr (.own (.pr (.own .imm) .imm)) .imm))), (98, (.pr (.own (.pr (.own .imm) .imm)) (.pr (.own (.pr (.own .imm) .imm)) .imm))), (99, (.pr (.pr (.own (.pr (.own .imm) .imm)) (.pr (.own (.pr (.own .imm) .imm)) .imm)) (.pr (.pr (.own .imm) .imm) .imm))), (100, (.pr (.pr (.own (.pr (.own .imm) .imm)) (.pr (.own (.pr (.own .imm) .imm)) .imm)) (.pr (.pr (.own .imm) .imm) .imm))), (102, (.own .imm)), (139, (.own .imm)), (142, (.own (.pr (.pr (.own .imm) .imm) .imm))), (143, (.pr .imm (.pr .imm (.pr .imm (.pr (.own (.pr (.pr (.own .imm) .imm) .imm)) (.pr .imm (.pr (.own .imm) .imm))))))), (144, (.pr .imm (.pr .imm (.pr .imm (.pr (.own (.pr (.pr (.own .imm) .imm) .imm)) (.pr .imm (.pr (.own .imm) .imm))))))), (148, (.pr (.pr (.own .imm) .imm) (.pr (.own .imm) .imm))), (149, (.pr (.pr (.own .imm) .imm) (.pr (.own .imm) .imm))), (155, (.pr (.own .imm) .imm)), (156, (.pr (.own .imm) .imm)), (176, (.own (.own (.pr (.own .imm) .imm)))), (177, (.pr .imm (.pr (.own (.own (.pr (.own .imm) .imm))) .imm))), (178, (.pr .imm (.pr (.own (.own (.pr (.own .imm) .imm))) .imm))), (197, (.pr (.own .imm) .imm)), (198, (.pr (.own .imm) .imm)), (199, (.pr (.pr (.own .imm) .imm) .imm)), (200, (.pr (.pr (.own .imm) .imm) .imm)), (201, (.own (.pr (.own .imm) .imm))), (221, (.own .imm))], live := [], ord := [(3, [0, 1, 2, 4, 5, 3, 6, 7, 8])], con := [((88, [.one]), spec_BufRight.con N), ((90, [.one]), spec_l15Word.con N), ((89, [.one]), spec_l01Copy.con N)], loops := [], joins := [] }
theorem spec_WordAhead.cons (N : Nat) : ConsOk Try.prog (spec_WordAhead.cfg N).con := (consOk_cons (hb88) (spec_BufRight.ok N) (spec_BufRight.det N) (consOk_cons (hb90) (spec_l15Word.ok N) (spec_l15Word.det N) (consOk_cons (hb89) (spec_l01Copy.ok N) (spec_l01Copy.det N) consOk_nil)))
theorem spec_WordAhead.ls (N : Nat) : LoopsOk Try.prog (spec_WordAhead.cfg N) (fnBody Try.f16) := loopsL (l := []) (by kernel_rfl) trivial
theorem spec_WordAhead.b (N : Nat) (x0 : den (.pair (.sl 2 (.int .i64)) (.pair (.int .i64) (.pair (.int .i64) .unit)))) : body (spec_WordAhead.cfg N) N Try.f16 [.one] [.v] [(false, (.own .imm))] [⟨(.pair (.sl 2 (.int .i64)) (.pair (.int .i64) (.pair (.int .i64) .unit))), .imm, x0⟩] (fun r i => some (r, i)) = bindO (spec_WordAhead N x0) fun r => some ([⟨(.sl 2 (.int .i64)), (.own .imm), r⟩], []) := by
  show _ = bindF _ _
  conv => rhs; simp only [spec_WordAhead, bindF_ifB, bindF_bindO, bindF_pure, bindF_none, bindF_onSum]
  kernel_rfl
theorem spec_WordAhead.ok (N : Nat) : ConOk Try.prog 16 [.one] (spec_WordAhead.con N) := by
  refine conOk_mk (g := spec_WordAhead.cfg N) (N := N) (res := [(false, (.own .imm))]) tys_ok (spec_WordAhead.cons N) mixed Try.func16 (spec_WordAhead.ls N) rfl rfl ?_
  intro ds R k y h
  cases ds with
  | nil => exact none_some h
  | cons d0 ds =>
  cases ds with
  | cons _ _ => exact none_some h
  | nil =>
  have h0 : (castDm (.pair (.sl 2 (.int .i64)) (.pair (.int .i64) (.pair (.int .i64) .unit))) .imm d0 fun x0 => bindO (spec_WordAhead N x0) fun r => k [⟨(.sl 2 (.int .i64)), (.own .imm), r⟩] []) = some y := h
  clear h
  obtain ⟨x0, rfl, h1⟩ := castDm_eq h0
  exact con_fin (spec_WordAhead.b N x0) h1
theorem spec_WordAhead.det (N : Nat) : ConDet (spec_WordAhead.con N) := by
  intro ds R k y h
  cases ds with
  | nil => exact none_some h
  | cons d0 ds =>
  cases ds with
  | cons _ _ => exact none_some h
  | nil =>
  have h0 : (castDm (.pair (.sl 2 (.int .i64)) (.pair (.int .i64) (.pair (.int .i64) .unit))) .imm d0 fun x0 => bindO (spec_WordAhead N x0) fun r => k [⟨(.sl 2 (.int .i64)), (.own .imm), r⟩] []) = some y := h
  clear h
  obtain ⟨x0, rfl, h1⟩ := castDm_eq h0
  obtain ⟨r, e, h⟩ := bindO_some h1
  refine ⟨_, _, h, fun k' => ?_⟩
  show (castDm (.pair (.sl 2 (.int .i64)) (.pair (.int .i64) (.pair (.int .i64) .unit))) .imm (⟨(.pair (.sl 2 (.int .i64)) (.pair (.int .i64) (.pair (.int .i64) .unit))), .imm, x0⟩ : Dy) fun x0 => bindO (spec_WordAhead N x0) fun r => k' [⟨(.sl 2 (.int .i64)), (.own .imm), r⟩] []) = _
  simp only [castDm_self]
  rw [e]
  rfl
noncomputable def impl_within.con (N : Nat) : Con := { modes := [.v, .v, .v], ptrs := [false], fn := fun ds k => match ds with | [d0, d1, d2] => castDm (.int .i64) .imm d0 fun x0 => castDm (.int .i64) .imm d1 fun x1 => castDm (.int .i64) .imm d2 fun x2 => bindO (impl_within N x0 x1 x2) fun r => k [⟨.bool, .imm, r⟩] [] | _ => none }
noncomputable def impl_within.cfg (N : Nat) : Cfg := { ty := tys, keep := [], flt := [], elm := [(22, (.own .imm)), (23, (.pr (.own .imm) .imm)), (24, (.pr (.own .imm) .imm)), (27, (.pr (.own .imm) .imm)), (34, (.own .imm)), (37, (.own .imm)), (44, (.own .imm)), (45, (.own (.own .imm))), (53, (.pr (.own (.own .imm)) (.pr .imm (.pr (.own .imm) .imm)))), (54, (.pr (.own (.own .imm)) (.pr .imm (.pr (.own .imm) .imm)))), (63, (.pr (.pr (.own (.own .imm)) (.pr .imm (.pr (.own .imm) .imm))) (.pr (.own .imm) .imm))), (64, (.pr (.pr (.own (.own .imm)) (.pr .imm (.pr (.own .imm) .imm))) (.pr (.own .imm) .imm))), (74, (.pr (.own (.own .imm)) .imm)), (75, (.pr (.own (.own .imm)) .imm)), (77, (.pr (.own (.own .imm)) .imm)), (90, (.pr (.pr (.own .imm) .imm) .imm)), (91, (.pr (.pr (.own .imm) .imm) .imm)), (96, (.own (.pr (.own .imm) .imm))), (97, (.pr (.own (.pr (.own .imm) .imm)) (.pr (.own (.pr (.own .imm) .imm)) .imm))), (98, (.pr (.own (.pr (.own .imm) .imm)) (.pr (.own (.pr (.own .imm) .imm)) .imm))), (99, (.pr (.pr (.own (.pr (.own .imm) .imm)) (.pr (.own (.pr (.own .imm) .imm)) .imm)) (.pr (.pr (.own .imm) .imm) .imm))), (100, (.pr (.pr (.own (.pr (.own .imm) .imm)) (.pr (.own (.pr (.own .imm) .imm)) .imm)) (.pr (.pr (.own .imm) .imm) .imm))), (102, (.own .imm)), (139, (.own .imm)), (142, (.own (.pr (.pr (.own .imm) .imm) .imm))), (143, (.pr .imm (.pr .imm (.pr .imm (.pr (.own (.pr (.pr (.own .imm) .imm) .imm)) (.pr .imm (.pr (.own .imm) .imm))))))), (144, (.pr .imm (.pr .imm (.pr .imm (.pr (.own (.pr (.pr (.own .imm) .imm) .imm)) (.pr .imm (.pr (.own .imm) .imm))))))), (148, (.pr (.pr (.own .imm) .imm) (.pr (.own .imm) .imm))), (149, (.pr (.pr (.own .imm) .imm) (.pr (.own .imm) .imm))), (155, (.pr (.own .imm) .imm)), (156, (.pr (.own .imm) .imm)), (176, (.own (.own (.pr (.own .imm) .imm)))), (177, (.pr .imm (.pr (.own (.own (.pr (.own .imm) .imm))) .imm))), (178, (.pr .imm (.pr (.own (.own (.pr (.own .imm) .imm))) .imm))), (197, (.pr (.own .imm) .imm)), (198, (.pr (.own .imm) .imm)), (199, (.pr (.pr (.own .imm) .imm) .imm)), (200, (.pr (.pr (.own .imm) .imm) .imm)), (201, (.own (.pr (.own .imm) .imm))), (221, (.own .imm))], live := [], ord := [], con := [], loops := [], joins := [] }
theorem impl_within.cons (N : Nat) : ConsOk Try.prog (impl_within.cfg N).con := consOk_nil
theorem impl_within.ls (N : Nat) : LoopsOk Try.prog (impl_within.cfg N) (fnBody Try.f120) := loopsL (l := []) (by kernel_rfl) trivial
theorem impl_within.b (N : Nat) (x0 : den (.int .i64)) (x1 : den (.int .i64)) (x2 : den (.int .i64)) : body (impl_within.cfg N) N Try.f120 [.one, .one, .one] [.v, .v, .v] [(false, .imm)] [⟨(.int .i64), .imm, x0⟩, ⟨(.int .i64), .imm, x1⟩, ⟨(.int .i64), .imm, x2⟩] (fun r i => some (r, i)) = bindO (impl_within N x0 x1 x2) fun r => some ([⟨.bool, .imm, r⟩], []) := by
  show _ = bindF _ _
  conv => rhs; simp only [impl_within, bindF_ifB, bindF_bindO, bindF_pure, bindF_none, bindF_onSum]
  kernel_rfl
theorem impl_within.ok (N : Nat) : ConOk Try.prog 120 [.one, .one, .one] (impl_within.con N) := by
  refine conOk_mk (g := impl_within.cfg N) (N := N) (res := [(false, .imm)]) tys_ok (impl_within.cons N) mixed Try.func120 (impl_within.ls N) rfl rfl ?_
  intro ds R k y h
  cases ds with
  | nil => exact none_some h
  | cons d0 ds =>
  cases ds with
  | nil => exact none_some h
  | cons d1 ds =>
  cases ds with
  | nil => exact none_some h
  | cons d2 ds =>
  cases ds with
  | cons _ _ => exact none_some h
  | nil =>
  have h0 : (castDm (.int .i64) .imm d0 fun x0 => castDm (.int .i64) .imm d1 fun x1 => castDm (.int .i64) .imm d2 fun x2 => bindO (impl_within N x0 x1 x2) fun r => k [⟨.bool, .imm, r⟩] []) = some y := h
  clear h
  obtain ⟨x0, rfl, h1⟩ := castDm_eq h0
  obtain ⟨x1, rfl, h2⟩ := castDm_eq h1
  obtain ⟨x2, rfl, h3⟩ := castDm_eq h2
  exact con_fin (impl_within.b N x0 x1 x2) h3
theorem impl_within.det (N : Nat) : ConDet (impl_within.con N) := by
  intro ds R k y h
  cases ds with
  | nil => exact none_some h
  | cons d0 ds =>
  cases ds with
  | nil => exact none_some h
  | cons d1 ds =>
  cases ds with
  | nil => exact none_some h
  | cons d2 ds =>
  cases ds with
  | cons _ _ => exact none_some h
  | nil =>
  have h0 : (castDm (.int .i64) .imm d0 fun x0 => castDm (.int .i64) .imm d1 fun x1 => castDm (.int .i64) .imm d2 fun x2 => bindO (impl_within N x0 x1 x2) fun r => k [⟨.bool, .imm, r⟩] []) = some y := h
  clear h
  obtain ⟨x0, rfl, h1⟩ := castDm_eq h0
  obtain ⟨x1, rfl, h2⟩ := castDm_eq h1
  obtain ⟨x2, rfl, h3⟩ := castDm_eq h2
  obtain ⟨r, e, h⟩ := bindO_some h3
  refine ⟨_, _, h, fun k' => ?_⟩
  show (castDm (.int .i64) .imm (⟨(.int .i64), .imm, x0⟩ : Dy) fun x0 => castDm (.int .i64) .imm (⟨(.int .i64), .imm, x1⟩ : Dy) fun x1 => castDm (.int .i64) .imm (⟨(.int .i64), .imm, x2⟩ : Dy) fun x2 => bindO (impl_within N x0 x1 x2) fun r => k' [⟨.bool, .imm, r⟩] []) = _
  simp only [castDm_self]
  rw [e]
  rfl
end Go.AE.F
