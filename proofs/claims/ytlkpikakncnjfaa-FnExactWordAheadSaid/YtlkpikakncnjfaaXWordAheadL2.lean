/- The printed functions are what the program comes to: contracts. -/
import Derived.Test.YtlkpikakncnjfaaXWordAheadL1
namespace Go.AE.F
open Go.AE Go.Proofs
set_option maxRecDepth 100000
noncomputable def impl_WordAhead.con (N : Nat) : Con := { modes := [.v], ptrs := [false], fn := fun ds k => match ds with | [d0] => castDm (.pair (.sl 2 (.int .i64)) (.pair (.int .i64) (.pair (.int .i64) .unit))) .imm d0 fun x0 => bindO (impl_WordAhead N x0) fun r => k [⟨(.sl 2 (.int .i64)), (.own .imm), r⟩] [] | _ => none }
noncomputable def impl_WordAhead.cfg (N : Nat) : Cfg := { ty := tys, keep := [4, 6, 7], flt := [], elm := [(22, (.own .imm)), (23, (.pr (.own .imm) .imm)), (24, (.pr (.own .imm) .imm)), (27, (.pr (.own .imm) .imm)), (34, (.own .imm)), (37, (.own .imm)), (44, (.own .imm)), (45, (.own (.own .imm))), (53, (.pr (.own (.own .imm)) (.pr .imm (.pr (.own .imm) .imm)))), (54, (.pr (.own (.own .imm)) (.pr .imm (.pr (.own .imm) .imm)))), (63, (.pr (.pr (.own (.own .imm)) (.pr .imm (.pr (.own .imm) .imm))) (.pr (.own .imm) .imm))), (64, (.pr (.pr (.own (.own .imm)) (.pr .imm (.pr (.own .imm) .imm))) (.pr (.own .imm) .imm))), (74, (.pr (.own (.own .imm)) .imm)), (75, (.pr (.own (.own .imm)) .imm)), (77, (.pr (.own (.own .imm)) .imm)), (90, (.pr (.pr (.own .imm) .imm) .imm)), (91, (.pr (.pr (.own .imm) .imm) .imm)), (96, (.own (.pr (.own .imm) .imm))), (97, (.pr (.own (.pr (.own .imm) .imm)) (.pr (.own (.pr (.own .imm) .imm)) .imm))), (98, (.pr (.own (.pr (.own .imm) .imm)) (.pr (.own (.pr (.own .imm) .imm)) .imm))), (99, (.pr (.pr (.own (.pr (.own .imm) .imm)) (.pr (.own (.pr (.own .imm) .imm)) .imm)) (.pr (.pr (.own .imm) .imm) .imm))), (100, (.pr (.pr (.own (.pr (.own .imm) .imm)) (.pr (.own (.pr (.own .imm) .imm)) .imm)) (.pr (.pr (.own .imm) .imm) .imm))), (102, (.own .imm)), (139, (.own .imm)), (142, (.own (.pr (.pr (.own .imm) .imm) .imm))), (143, (.pr .imm (.pr .imm (.pr .imm (.pr (.own (.pr (.pr (.own .imm) .imm) .imm)) (.pr .imm (.pr (.own .imm) .imm))))))), (144, (.pr .imm (.pr .imm (.pr .imm (.pr (.own (.pr (.pr (.own .imm) .imm) .imm)) (.pr .imm (.pr (.own .imm) .imm))))))), (148, (.pr (.pr (.own .imm) .imm) (.pr (.own .imm) .imm))), (149, (.pr (.pr (.own .imm) .imm) (.pr (.own .imm) .imm))), (155, (.pr (.own .imm) .imm)), (156, (.pr (.own .imm) .imm)), (176, (.own (.own (.pr (.own .imm) .imm)))), (177, (.pr .imm (.pr (.own (.own (.pr (.own .imm) .imm))) .imm))), (178, (.pr .imm (.pr (.own (.own (.pr (.own .imm) .imm))) .imm))), (197, (.pr (.own .imm) .imm)), (198, (.pr (.own .imm) .imm)), (199, (.pr (.pr (.own .imm) .imm) .imm)), (200, (.pr (.pr (.own .imm) .imm) .imm)), (201, (.own (.pr (.own .imm) .imm))), (221, (.own .imm))], live := [], ord := [], con := [((91, [.one]), impl_BufRight.con N), ((93, [.one]), impl_Buf_ahead.con N), ((92, [.one]), slices_Clone_Sint64_int64.con N)], loops := [], joins := [] }
theorem impl_WordAhead.cons (N : Nat) : ConsOk Try.prog (impl_WordAhead.cfg N).con := (consOk_cons (hb91) (impl_BufRight.ok N) (impl_BufRight.det N) (consOk_cons (hb93) (impl_Buf_ahead.ok N) (impl_Buf_ahead.det N) (consOk_cons (hb92) (slices_Clone_Sint64_int64.ok N) (slices_Clone_Sint64_int64.det N) consOk_nil)))
theorem impl_WordAhead.ls (N : Nat) : LoopsOk Try.prog (impl_WordAhead.cfg N) (fnBody Try.f18) := loopsL (l := []) (by kernel_rfl) trivial
theorem impl_WordAhead.b (N : Nat) (x0 : den (.pair (.sl 2 (.int .i64)) (.pair (.int .i64) (.pair (.int .i64) .unit)))) : body (impl_WordAhead.cfg N) N Try.f18 [.one] [.v] [(false, (.own .imm))] [⟨(.pair (.sl 2 (.int .i64)) (.pair (.int .i64) (.pair (.int .i64) .unit))), .imm, x0⟩] (fun r i => some (r, i)) = bindO (impl_WordAhead N x0) fun r => some ([⟨(.sl 2 (.int .i64)), (.own .imm), r⟩], []) := by
  show _ = bindF _ _
  conv => rhs; simp only [impl_WordAhead, bindF_ifB, bindF_bindO, bindF_pure, bindF_none, bindF_onSum]
  kernel_rfl
theorem impl_WordAhead.ok (N : Nat) : ConOk Try.prog 18 [.one] (impl_WordAhead.con N) := by
  refine conOk_mk (g := impl_WordAhead.cfg N) (N := N) (res := [(false, (.own .imm))]) tys_ok (impl_WordAhead.cons N) mixed Try.func18 (impl_WordAhead.ls N) rfl rfl ?_
  intro ds R k y h
  cases ds with
  | nil => exact none_some h
  | cons d0 ds =>
  cases ds with
  | cons _ _ => exact none_some h
  | nil =>
  have h0 : (castDm (.pair (.sl 2 (.int .i64)) (.pair (.int .i64) (.pair (.int .i64) .unit))) .imm d0 fun x0 => bindO (impl_WordAhead N x0) fun r => k [⟨(.sl 2 (.int .i64)), (.own .imm), r⟩] []) = some y := h
  clear h
  obtain ⟨x0, rfl, h1⟩ := castDm_eq h0
  exact con_fin (impl_WordAhead.b N x0) h1
theorem impl_WordAhead.det (N : Nat) : ConDet (impl_WordAhead.con N) := by
  intro ds R k y h
  cases ds with
  | nil => exact none_some h
  | cons d0 ds =>
  cases ds with
  | cons _ _ => exact none_some h
  | nil =>
  have h0 : (castDm (.pair (.sl 2 (.int .i64)) (.pair (.int .i64) (.pair (.int .i64) .unit))) .imm d0 fun x0 => bindO (impl_WordAhead N x0) fun r => k [⟨(.sl 2 (.int .i64)), (.own .imm), r⟩] []) = some y := h
  clear h
  obtain ⟨x0, rfl, h1⟩ := castDm_eq h0
  obtain ⟨r, e, h⟩ := bindO_some h1
  refine ⟨_, _, h, fun k' => ?_⟩
  show (castDm (.pair (.sl 2 (.int .i64)) (.pair (.int .i64) (.pair (.int .i64) .unit))) .imm (⟨(.pair (.sl 2 (.int .i64)) (.pair (.int .i64) (.pair (.int .i64) .unit))), .imm, x0⟩ : Dy) fun x0 => bindO (impl_WordAhead N x0) fun r => k' [⟨(.sl 2 (.int .i64)), (.own .imm), r⟩] []) = _
  simp only [castDm_self]
  rw [e]
  rfl
def laws_eqInt64S.sk4 : Skel := ⟨[.pv (.sl 2 (.int .i64)), .pv (.sl 2 (.int .i64)), .dead, .dead, .dead, .pv (.int .i64), .dead, .dead, .dead, .dead, .dead, .dead, .dead, .dead, .dead, .dead, .dead, .dead, .dead, .dead, .dead, .dead, .dead, .dead, .dead, .dead], []⟩
def laws_eqInt64S.xs4 : List XS := [⟨.exit 0, [], ⟨[.dead, .dead, .dead, .dead, .dead, .dead, .dead, .dead, .dead, .dead, .dead, .dead, .dead, .dead, .dead, .dead, .dead, .dead, .dead, .dead, .dead, .dead, .dead, .dead, .dead, .dead], []⟩⟩, ⟨.ret, [4], ⟨[.dead, .dead, .dead, .dead, .pv .bool, .dead, .dead, .dead, .dead, .dead, .dead, .dead, .dead, .dead, .dead, .dead, .dead, .dead, .dead, .dead, .dead, .dead, .dead, .dead, .dead, .dead], []⟩⟩]
noncomputable def laws_eqInt64S.con (N : Nat) : Con := { modes := [.v, .v], ptrs := [false], fn := fun ds k => match ds with | [d0, d1] => castDm (.sl 2 (.int .i64)) .imm d0 fun x0 => castDm (.sl 2 (.int .i64)) .imm d1 fun x1 => bindO (laws_eqInt64S N x0 x1) fun r => k [⟨.bool, .imm, r⟩] [] | _ => none }
noncomputable def laws_eqInt64S.cfg (N : Nat) : Cfg := { ty := tys, keep := [], flt := [], elm := [(22, (.own .imm)), (23, (.pr (.own .imm) .imm)), (24, (.pr (.own .imm) .imm)), (27, (.pr (.own .imm) .imm)), (34, (.own .imm)), (37, (.own .imm)), (44, (.own .imm)), (45, (.own (.own .imm))), (53, (.pr (.own (.own .imm)) (.pr .imm (.pr (.own .imm) .imm)))), (54, (.pr (.own (.own .imm)) (.pr .imm (.pr (.own .imm) .imm)))), (63, (.pr (.pr (.own (.own .imm)) (.pr .imm (.pr (.own .imm) .imm))) (.pr (.own .imm) .imm))), (64, (.pr (.pr (.own (.own .imm)) (.pr .imm (.pr (.own .imm) .imm))) (.pr (.own .imm) .imm))), (74, (.pr (.own (.own .imm)) .imm)), (75, (.pr (.own (.own .imm)) .imm)), (77, (.pr (.own (.own .imm)) .imm)), (90, (.pr (.pr (.own .imm) .imm) .imm)), (91, (.pr (.pr (.own .imm) .imm) .imm)), (96, (.own (.pr (.own .imm) .imm))), (97, (.pr (.own (.pr (.own .imm) .imm)) (.pr (.own (.pr (.own .imm) .imm)) .imm))), (98, (.pr (.own (.pr (.own .imm) .imm)) (.pr (.own (.pr (.own .imm) .imm)) .imm))), (99, (.pr (.pr (.own (.pr (.own .imm) .imm)) (.pr (.own (.pr (.own .imm) .imm)) .imm)) (.pr (.pr (.own .imm) .imm) .imm))), (100, (.pr (.pr (.own (.pr (.own .imm) .imm)) (.pr (.own (.pr (.own .imm) .imm)) .imm)) (.pr (.pr (.own .imm) .imm) .imm))), (102, (.own .imm)), (139, (.own .imm)), (142, (.own (.pr (.pr (.own .imm) .imm) .imm))), (143, (.pr .imm (.pr .imm (.pr .imm (.pr (.own (.pr (.pr (.own .imm) .imm) .imm)) (.pr .imm (.pr (.own .imm) .imm))))))), (144, (.pr .imm (.pr .imm (.pr .imm (.pr (.own (.pr (.pr (.own .imm) .imm) .imm)) (.pr .imm (.pr (.own .imm) .imm))))))), (148, (.pr (.pr (.own .imm) .imm) (.pr (.own .imm) .imm))), (149, (.pr (.pr (.own .imm) .imm) (.pr (.own .imm) .imm))), (155, (.pr (.own .imm) .imm)), (156, (.pr (.own .imm) .imm)), (176, (.own (.own (.pr (.own .imm) .imm)))), (177, (.pr .imm (.pr (.own (.own (.pr (.own .imm) .imm))) .imm))), (178, (.pr .imm (.pr (.own (.own (.pr (.own .imm) .imm))) .imm))), (197, (.pr (.own .imm) .imm)), (198, (.pr (.own .imm) .imm)), (199, (.pr (.pr (.own .imm) .imm) .imm)), (200, (.pr (.pr (.own .imm) .imm) .imm)), (201, (.own (.pr (.own .imm) .imm))), (221, (.own .imm))], live := [(4, [0, 1, 5])], ord := [(6, [0, 1, 2, 3, 4, 5, 6, 7, 8])], con := [], loops := [(4, loopCon N laws_eqInt64S.sk4 laws_eqInt64S.xs4 (fun {R} => laws_eqInt64S.l4 (R := R) N))], joins := [] }
theorem laws_eqInt64S.cons (N : Nat) : ConsOk Try.prog (laws_eqInt64S.cfg N).con := consOk_nil
theorem laws_eqInt64S.h4 {R : Type} (N : Nat) (d : laws_eqInt64S.sk4.D) (kn : laws_eqInt64S.sk4.D → Option R) (kx : XD laws_eqInt64S.xs4 → Option R) : roundK (laws_eqInt64S.cfg N) N (nthLoop (fnBody Try.f19) 0) laws_eqInt64S.sk4 laws_eqInt64S.xs4 d kn kx = laws_eqInt64S.l4 N d kn kx := by kernel_rfl
theorem laws_eqInt64S.i4 (N : Nat) : LoopsOk Try.prog (laws_eqInt64S.cfg N) (nthLoop (fnBody Try.f19) 0) := loopsL (l := []) (by kernel_rfl) trivial
theorem laws_eqInt64S.o4 (N : Nat) : LoopOk Try.prog (nthLoop (fnBody Try.f19) 0) (loopCon N laws_eqInt64S.sk4 laws_eqInt64S.xs4 (fun {R} => laws_eqInt64S.l4 (R := R) N)) := loop_ok (g := laws_eqInt64S.cfg N) tys_ok (laws_eqInt64S.cons N) mixed (laws_eqInt64S.i4 N) (fun d kn kx => laws_eqInt64S.h4 N d kn kx)
theorem laws_eqInt64S.ls (N : Nat) : LoopsOk Try.prog (laws_eqInt64S.cfg N) (fnBody Try.f19) := loopsL (l := [nthLoop (fnBody Try.f19) 0]) (by kernel_rfl) ⟨loopOne (L0 := loopCon N laws_eqInt64S.sk4 laws_eqInt64S.xs4 (fun {R} => laws_eqInt64S.l4 (R := R) N)) (id := 4) (by kernel_rfl) (by kernel_rfl) (laws_eqInt64S.o4 N), trivial⟩
theorem laws_eqInt64S.q4 {R R' : Type} {N n : Nat} {d} {k} {g : R → Option R'} : bindF (loopP (laws_eqInt64S.l4 N) n d k) g = loopP (laws_eqInt64S.l4 N) n d fun e => bindF (k e) g := bindF_loopP (fun d kn kx => by simp only [laws_eqInt64S.l4, bindF_ifB, bindF_bindO, bindF_pure, bindF_none, bindF_onSum]) n d k
theorem laws_eqInt64S.b (N : Nat) (x0 : den (.sl 2 (.int .i64))) (x1 : den (.sl 2 (.int .i64))) : body (laws_eqInt64S.cfg N) N Try.f19 [.one, .one] [.v, .v] [(false, .imm)] [⟨(.sl 2 (.int .i64)), .imm, x0⟩, ⟨(.sl 2 (.int .i64)), .imm, x1⟩] (fun r i => some (r, i)) = bindO (laws_eqInt64S N x0 x1) fun r => some ([⟨.bool, .imm, r⟩], []) := by
  show _ = bindF _ _
  conv => rhs; simp only [laws_eqInt64S, bindF_ifB, bindF_bindO, bindF_pure, bindF_none, bindF_onSum, laws_eqInt64S.q4]
  kernel_rfl
theorem laws_eqInt64S.ok (N : Nat) : ConOk Try.prog 19 [.one, .one] (laws_eqInt64S.con N) := by
  refine conOk_mk (g := laws_eqInt64S.cfg N) (N := N) (res := [(false, .imm)]) tys_ok (laws_eqInt64S.cons N) mixed Try.func19 (laws_eqInt64S.ls N) rfl rfl ?_
  intro ds R k y h
  cases ds with
  | nil => exact none_some h
  | cons d0 ds =>
  cases ds with
  | nil => exact none_some h
  | cons d1 ds =>
  cases ds with
  | cons _ _ => exact none_some h
  | nil =>
  have h0 : (castDm (.sl 2 (.int .i64)) .imm d0 fun x0 => castDm (.sl 2 (.int .i64)) .imm d1 fun x1 => bindO (laws_eqInt64S N x0 x1) fun r => k [⟨.bool, .imm, r⟩] []) = some y := h
  clear h
  obtain ⟨x0, rfl, h1⟩ := castDm_eq h0
  obtain ⟨x1, rfl, h2⟩ := castDm_eq h1
  exact con_fin (laws_eqInt64S.b N x0 x1) h2
theorem laws_eqInt64S.det (N : Nat) : ConDet (laws_eqInt64S.con N) := by
  intro ds R k y h
  cases ds with
  | nil => exact none_some h
  | cons d0 ds =>
  cases ds with
  | nil => exact none_some h
  | cons d1 ds =>
  cases ds with
  | cons _ _ => exact none_some h
  | nil =>
  have h0 : (castDm (.sl 2 (.int .i64)) .imm d0 fun x0 => castDm (.sl 2 (.int .i64)) .imm d1 fun x1 => bindO (laws_eqInt64S N x0 x1) fun r => k [⟨.bool, .imm, r⟩] []) = some y := h
  clear h
  obtain ⟨x0, rfl, h1⟩ := castDm_eq h0
  obtain ⟨x1, rfl, h2⟩ := castDm_eq h1
  obtain ⟨r, e, h⟩ := bindO_some h2
  refine ⟨_, _, h, fun k' => ?_⟩
  show (castDm (.sl 2 (.int .i64)) .imm (⟨(.sl 2 (.int .i64)), .imm, x0⟩ : Dy) fun x0 => castDm (.sl 2 (.int .i64)) .imm (⟨(.sl 2 (.int .i64)), .imm, x1⟩ : Dy) fun x1 => bindO (laws_eqInt64S N x0 x1) fun r => k' [⟨.bool, .imm, r⟩] []) = _
  simp only [castDm_self]
  rw [e]
  rfl
noncomputable def laws_eqBuf.con (N : Nat) : Con := { modes := [.v, .v], ptrs := [false], fn := fun ds k => match ds with | [d0, d1] => castDm (.pair (.sl 2 (.int .i64)) (.pair (.int .i64) (.pair (.int .i64) .unit))) .imm d0 fun x0 => castDm (.pair (.sl 2 (.int .i64)) (.pair (.int .i64) (.pair (.int .i64) .unit))) .imm d1 fun x1 => bindO (laws_eqBuf N x0 x1) fun r => k [⟨.bool, .imm, r⟩] [] | _ => none }
noncomputable def laws_eqBuf.cfg (N : Nat) : Cfg := { ty := tys, keep := [9], flt := [], elm := [(22, (.own .imm)), (23, (.pr (.own .imm) .imm)), (24, (.pr (.own .imm) .imm)), (27, (.pr (.own .imm) .imm)), (34, (.own .imm)), (37, (.own .imm)), (44, (.own .imm)), (45, (.own (.own .imm))), (53, (.pr (.own (.own .imm)) (.pr .imm (.pr (.own .imm) .imm)))), (54, (.pr (.own (.own .imm)) (.pr .imm (.pr (.own .imm) .imm)))), (63, (.pr (.pr (.own (.own .imm)) (.pr .imm (.pr (.own .imm) .imm))) (.pr (.own .imm) .imm))), (64, (.pr (.pr (.own (.own .imm)) (.pr .imm (.pr (.own .imm) .imm))) (.pr (.own .imm) .imm))), (74, (.pr (.own (.own .imm)) .imm)), (75, (.pr (.own (.own .imm)) .imm)), (77, (.pr (.own (.own .imm)) .imm)), (90, (.pr (.pr (.own .imm) .imm) .imm)), (91, (.pr (.pr (.own .imm) .imm) .imm)), (96, (.own (.pr (.own .imm) .imm))), (97, (.pr (.own (.pr (.own .imm) .imm)) (.pr (.own (.pr (.own .imm) .imm)) .imm))), (98, (.pr (.own (.pr (.own .imm) .imm)) (.pr (.own (.pr (.own .imm) .imm)) .imm))), (99, (.pr (.pr (.own (.pr (.own .imm) .imm)) (.pr (.own (.pr (.own .imm) .imm)) .imm)) (.pr (.pr (.own .imm) .imm) .imm))), (100, (.pr (.pr (.own (.pr (.own .imm) .imm)) (.pr (.own (.pr (.own .imm) .imm)) .imm)) (.pr (.pr (.own .imm) .imm) .imm))), (102, (.own .imm)), (139, (.own .imm)), (142, (.own (.pr (.pr (.own .imm) .imm) .imm))), (143, (.pr .imm (.pr .imm (.pr .imm (.pr (.own (.pr (.pr (.own .imm) .imm) .imm)) (.pr .imm (.pr (.own .imm) .imm))))))), (144, (.pr .imm (.pr .imm (.pr .imm (.pr (.own (.pr (.pr (.own .imm) .imm) .imm)) (.pr .imm (.pr (.own .imm) .imm))))))), (148, (.pr (.pr (.own .imm) .imm) (.pr (.own .imm) .imm))), (149, (.pr (.pr (.own .imm) .imm) (.pr (.own .imm) .imm))), (155, (.pr (.own .imm) .imm)), (156, (.pr (.own .imm) .imm)), (176, (.own (.own (.pr (.own .imm) .imm)))), (177, (.pr .imm (.pr (.own (.own (.pr (.own .imm) .imm))) .imm))), (178, (.pr .imm (.pr (.own (.own (.pr (.own .imm) .imm))) .imm))), (197, (.pr (.own .imm) .imm)), (198, (.pr (.own .imm) .imm)), (199, (.pr (.pr (.own .imm) .imm) .imm)), (200, (.pr (.pr (.own .imm) .imm) .imm)), (201, (.own (.pr (.own .imm) .imm))), (221, (.own .imm))], live := [], ord := [], con := [((19, [.one, .one]), laws_eqInt64S.con N)], loops := [], joins := [] }
theorem laws_eqBuf.cons (N : Nat) : ConsOk Try.prog (laws_eqBuf.cfg N).con := (consOk_cons (hb19) (laws_eqInt64S.ok N) (laws_eqInt64S.det N) consOk_nil)
theorem laws_eqBuf.ls (N : Nat) : LoopsOk Try.prog (laws_eqBuf.cfg N) (fnBody Try.f20) := loopsL (l := []) (by kernel_rfl) trivial
theorem laws_eqBuf.b (N : Nat) (x0 : den (.pair (.sl 2 (.int .i64)) (.pair (.int .i64) (.pair (.int .i64) .unit)))) (x1 : den (.pair (.sl 2 (.int .i64)) (.pair (.int .i64) (.pair (.int .i64) .unit)))) : body (laws_eqBuf.cfg N) N Try.f20 [.one, .one] [.v, .v] [(false, .imm)] [⟨(.pair (.sl 2 (.int .i64)) (.pair (.int .i64) (.pair (.int .i64) .unit))), .imm, x0⟩, ⟨(.pair (.sl 2 (.int .i64)) (.pair (.int .i64) (.pair (.int .i64) .unit))), .imm, x1⟩] (fun r i => some (r, i)) = bindO (laws_eqBuf N x0 x1) fun r => some ([⟨.bool, .imm, r⟩], []) := by
  show _ = bindF _ _
  conv => rhs; simp only [laws_eqBuf, bindF_ifB, bindF_bindO, bindF_pure, bindF_none, bindF_onSum]
  kernel_rfl
theorem laws_eqBuf.ok (N : Nat) : ConOk Try.prog 20 [.one, .one] (laws_eqBuf.con N) := by
  refine conOk_mk (g := laws_eqBuf.cfg N) (N := N) (res := [(false, .imm)]) tys_ok (laws_eqBuf.cons N) mixed Try.func20 (laws_eqBuf.ls N) rfl rfl ?_
  intro ds R k y h
  cases ds with
  | nil => exact none_some h
  | cons d0 ds =>
  cases ds with
  | nil => exact none_some h
  | cons d1 ds =>
  cases ds with
  | cons _ _ => exact none_some h
  | nil =>
  have h0 : (castDm (.pair (.sl 2 (.int .i64)) (.pair (.int .i64) (.pair (.int .i64) .unit))) .imm d0 fun x0 => castDm (.pair (.sl 2 (.int .i64)) (.pair (.int .i64) (.pair (.int .i64) .unit))) .imm d1 fun x1 => bindO (laws_eqBuf N x0 x1) fun r => k [⟨.bool, .imm, r⟩] []) = some y := h
  clear h
  obtain ⟨x0, rfl, h1⟩ := castDm_eq h0
  obtain ⟨x1, rfl, h2⟩ := castDm_eq h1
  exact con_fin (laws_eqBuf.b N x0 x1) h2
theorem laws_eqBuf.det (N : Nat) : ConDet (laws_eqBuf.con N) := by
  intro ds R k y h
  cases ds with
  | nil => exact none_some h
  | cons d0 ds =>
  cases ds with
  | nil => exact none_some h
  | cons d1 ds =>
  cases ds with
  | cons _ _ => exact none_some h
  | nil =>
  have h0 : (castDm (.pair (.sl 2 (.int .i64)) (.pair (.int .i64) (.pair (.int .i64) .unit))) .imm d0 fun x0 => castDm (.pair (.sl 2 (.int .i64)) (.pair (.int .i64) (.pair (.int .i64) .unit))) .imm d1 fun x1 => bindO (laws_eqBuf N x0 x1) fun r => k [⟨.bool, .imm, r⟩] []) = some y := h
  clear h
  obtain ⟨x0, rfl, h1⟩ := castDm_eq h0
  obtain ⟨x1, rfl, h2⟩ := castDm_eq h1
  obtain ⟨r, e, h⟩ := bindO_some h2
  refine ⟨_, _, h, fun k' => ?_⟩
  show (castDm (.pair (.sl 2 (.int .i64)) (.pair (.int .i64) (.pair (.int .i64) .unit))) .imm (⟨(.pair (.sl 2 (.int .i64)) (.pair (.int .i64) (.pair (.int .i64) .unit))), .imm, x0⟩ : Dy) fun x0 => castDm (.pair (.sl 2 (.int .i64)) (.pair (.int .i64) (.pair (.int .i64) .unit))) .imm (⟨(.pair (.sl 2 (.int .i64)) (.pair (.int .i64) (.pair (.int .i64) .unit))), .imm, x1⟩ : Dy) fun x1 => bindO (laws_eqBuf N x0 x1) fun r => k' [⟨.bool, .imm, r⟩] []) = _
  simp only [castDm_self]
  rw [e]
  rfl
def laws_markInt64S.sk2 : Skel := ⟨[.ov 0 [], .pv (.int .i64), .dead, .dead, .dead, .pv (.int .i64), .dead, .dead, .dead, .dead, .dead, .dead, .dead, .dead, .dead, .dead, .dead, .dead, .dead], [⟨0, (.sl 2 (.int .i64)), (.own .imm), false, true⟩]⟩
def laws_markInt64S.xs2 : List XS := [⟨.exit 0, [1], ⟨[.dead, .pv (.int .i64), .dead, .dead, .dead, .dead, .dead, .dead, .dead, .dead, .dead, .dead, .dead, .dead, .dead, .dead, .dead, .dead, .dead], [⟨0, (.sl 2 (.int .i64)), (.own .imm), false, true⟩]⟩⟩]
noncomputable def laws_markInt64S.con (N : Nat) : Con := { modes := [.iov, .v], ptrs := [false], fn := fun ds k => match ds with | [d0, d1] => castDm (.sl 2 (.int .i64)) (.own .imm) d0 fun x0 => castDm (.int .i64) .imm d1 fun x1 => bindO (laws_markInt64S N x0 x1) fun r => k [⟨(.int .i64), .imm, r.1⟩] [⟨(.sl 2 (.int .i64)), (.own .imm), r.2⟩] | _ => none }
noncomputable def laws_markInt64S.cfg (N : Nat) : Cfg := { ty := tys, keep := [], flt := [], elm := [(22, (.own .imm)), (23, (.pr (.own .imm) .imm)), (24, (.pr (.own .imm) .imm)), (27, (.pr (.own .imm) .imm)), (34, (.own .imm)), (37, (.own .imm)), (44, (.own .imm)), (45, (.own (.own .imm))), (53, (.pr (.own (.own .imm)) (.pr .imm (.pr (.own .imm) .imm)))), (54, (.pr (.own (.own .imm)) (.pr .imm (.pr (.own .imm) .imm)))), (63, (.pr (.pr (.own (.own .imm)) (.pr .imm (.pr (.own .imm) .imm))) (.pr (.own .imm) .imm))), (64, (.pr (.pr (.own (.own .imm)) (.pr .imm (.pr (.own .imm) .imm))) (.pr (.own .imm) .imm))), (74, (.pr (.own (.own .imm)) .imm)), (75, (.pr (.own (.own .imm)) .imm)), (77, (.pr (.own (.own .imm)) .imm)), (90, (.pr (.pr (.own .imm) .imm) .imm)), (91, (.pr (.pr (.own .imm) .imm) .imm)), (96, (.own (.pr (.own .imm) .imm))), (97, (.pr (.own (.pr (.own .imm) .imm)) (.pr (.own (.pr (.own .imm) .imm)) .imm))), (98, (.pr (.own (.pr (.own .imm) .imm)) (.pr (.own (.pr (.own .imm) .imm)) .imm))), (99, (.pr (.pr (.own (.pr (.own .imm) .imm)) (.pr (.own (.pr (.own .imm) .imm)) .imm)) (.pr (.pr (.own .imm) .imm) .imm))), (100, (.pr (.pr (.own (.pr (.own .imm) .imm)) (.pr (.own (.pr (.own .imm) .imm)) .imm)) (.pr (.pr (.own .imm) .imm) .imm))), (102, (.own .imm)), (139, (.own .imm)), (142, (.own (.pr (.pr (.own .imm) .imm) .imm))), (143, (.pr .imm (.pr .imm (.pr .imm (.pr (.own (.pr (.pr (.own .imm) .imm) .imm)) (.pr .imm (.pr (.own .imm) .imm))))))), (144, (.pr .imm (.pr .imm (.pr .imm (.pr (.own (.pr (.pr (.own .imm) .imm) .imm)) (.pr .imm (.pr (.own .imm) .imm))))))), (148, (.pr (.pr (.own .imm) .imm) (.pr (.own .imm) .imm))), (149, (.pr (.pr (.own .imm) .imm) (.pr (.own .imm) .imm))), (155, (.pr (.own .imm) .imm)), (156, (.pr (.own .imm) .imm)), (176, (.own (.own (.pr (.own .imm) .imm)))), (177, (.pr .imm (.pr (.own (.own (.pr (.own .imm) .imm))) .imm))), (178, (.pr .imm (.pr (.own (.own (.pr (.own .imm) .imm))) .imm))), (197, (.pr (.own .imm) .imm)), (198, (.pr (.own .imm) .imm)), (199, (.pr (.pr (.own .imm) .imm) .imm)), (200, (.pr (.pr (.own .imm) .imm) .imm)), (201, (.own (.pr (.own .imm) .imm))), (221, (.own .imm))], live := [(2, [0, 1, 5])], ord := [], con := [], loops := [(2, loopCon N laws_markInt64S.sk2 laws_markInt64S.xs2 (fun {R} => laws_markInt64S.l2 (R := R) N))], joins := [] }
theorem laws_markInt64S.cons (N : Nat) : ConsOk Try.prog (laws_markInt64S.cfg N).con := consOk_nil
theorem laws_markInt64S.h2 {R : Type} (N : Nat) (d : laws_markInt64S.sk2.D) (kn : laws_markInt64S.sk2.D → Option R) (kx : XD laws_markInt64S.xs2 → Option R) : roundK (laws_markInt64S.cfg N) N (nthLoop (fnBody Try.f22) 0) laws_markInt64S.sk2 laws_markInt64S.xs2 d kn kx = laws_markInt64S.l2 N d kn kx := by kernel_rfl
theorem laws_markInt64S.i2 (N : Nat) : LoopsOk Try.prog (laws_markInt64S.cfg N) (nthLoop (fnBody Try.f22) 0) := loopsL (l := []) (by kernel_rfl) trivial
theorem laws_markInt64S.o2 (N : Nat) : LoopOk Try.prog (nthLoop (fnBody Try.f22) 0) (loopCon N laws_markInt64S.sk2 laws_markInt64S.xs2 (fun {R} => laws_markInt64S.l2 (R := R) N)) := loop_ok (g := laws_markInt64S.cfg N) tys_ok (laws_markInt64S.cons N) mixed (laws_markInt64S.i2 N) (fun d kn kx => laws_markInt64S.h2 N d kn kx)
theorem laws_markInt64S.ls (N : Nat) : LoopsOk Try.prog (laws_markInt64S.cfg N) (fnBody Try.f22) := loopsL (l := [nthLoop (fnBody Try.f22) 0]) (by kernel_rfl) ⟨loopOne (L0 := loopCon N laws_markInt64S.sk2 laws_markInt64S.xs2 (fun {R} => laws_markInt64S.l2 (R := R) N)) (id := 2) (by kernel_rfl) (by kernel_rfl) (laws_markInt64S.o2 N), trivial⟩
theorem laws_markInt64S.q2 {R R' : Type} {N n : Nat} {d} {k} {g : R → Option R'} : bindF (loopP (laws_markInt64S.l2 N) n d k) g = loopP (laws_markInt64S.l2 N) n d fun e => bindF (k e) g := bindF_loopP (fun d kn kx => by simp only [laws_markInt64S.l2, bindF_ifB, bindF_bindO, bindF_pure, bindF_none, bindF_onSum]) n d k
theorem laws_markInt64S.b (N : Nat) (x0 : den (.sl 2 (.int .i64))) (x1 : den (.int .i64)) : body (laws_markInt64S.cfg N) N Try.f22 [.one, .one] [.iov, .v] [(false, .imm)] [⟨(.sl 2 (.int .i64)), (.own .imm), x0⟩, ⟨(.int .i64), .imm, x1⟩] (fun r i => some (r, i)) = bindO (laws_markInt64S N x0 x1) fun r => some ([⟨(.int .i64), .imm, r.1⟩], [⟨(.sl 2 (.int .i64)), (.own .imm), r.2⟩]) := by
  show _ = bindF _ _
  conv => rhs; simp only [laws_markInt64S, bindF_ifB, bindF_bindO, bindF_pure, bindF_none, bindF_onSum, laws_markInt64S.q2]
  kernel_rfl
theorem laws_markInt64S.ok (N : Nat) : ConOk Try.prog 22 [.one, .one] (laws_markInt64S.con N) := by
  refine conOk_mk (g := laws_markInt64S.cfg N) (N := N) (res := [(false, .imm)]) tys_ok (laws_markInt64S.cons N) mixed Try.func22 (laws_markInt64S.ls N) rfl rfl ?_
  intro ds R k y h
  cases ds with
  | nil => exact none_some h
  | cons d0 ds =>
  cases ds with
  | nil => exact none_some h
  | cons d1 ds =>
  cases ds with
  | cons _ _ => exact none_some h
  | nil =>
  have h0 : (castDm (.sl 2 (.int .i64)) (.own .imm) d0 fun x0 => castDm (.int .i64) .imm d1 fun x1 => bindO (laws_markInt64S N x0 x1) fun r => k [⟨(.int .i64), .imm, r.1⟩] [⟨(.sl 2 (.int .i64)), (.own .imm), r.2⟩]) = some y := h
  clear h
  obtain ⟨x0, rfl, h1⟩ := castDm_eq h0
  obtain ⟨x1, rfl, h2⟩ := castDm_eq h1
  exact con_fin (laws_markInt64S.b N x0 x1) h2
theorem laws_markInt64S.det (N : Nat) : ConDet (laws_markInt64S.con N) := by
  intro ds R k y h
  cases ds with
  | nil => exact none_some h
  | cons d0 ds =>
  cases ds with
  | nil => exact none_some h
  | cons d1 ds =>
  cases ds with
  | cons _ _ => exact none_some h
  | nil =>
  have h0 : (castDm (.sl 2 (.int .i64)) (.own .imm) d0 fun x0 => castDm (.int .i64) .imm d1 fun x1 => bindO (laws_markInt64S N x0 x1) fun r => k [⟨(.int .i64), .imm, r.1⟩] [⟨(.sl 2 (.int .i64)), (.own .imm), r.2⟩]) = some y := h
  clear h
  obtain ⟨x0, rfl, h1⟩ := castDm_eq h0
  obtain ⟨x1, rfl, h2⟩ := castDm_eq h1
  obtain ⟨r, e, h⟩ := bindO_some h2
  refine ⟨_, _, h, fun k' => ?_⟩
  show (castDm (.sl 2 (.int .i64)) (.own .imm) (⟨(.sl 2 (.int .i64)), (.own .imm), x0⟩ : Dy) fun x0 => castDm (.int .i64) .imm (⟨(.int .i64), .imm, x1⟩ : Dy) fun x1 => bindO (laws_markInt64S N x0 x1) fun r => k' [⟨(.int .i64), .imm, r.1⟩] [⟨(.sl 2 (.int .i64)), (.own .imm), r.2⟩]) = _
  simp only [castDm_self]
  rw [e]
  rfl
noncomputable def laws_markBuf.con (N : Nat) : Con := { modes := [.iov, .v], ptrs := [false], fn := fun ds k => match ds with | [d0, d1] => castDm (.pair (.sl 2 (.int .i64)) (.pair (.int .i64) (.pair (.int .i64) .unit))) (.pr (.own .imm) .imm) d0 fun x0 => castDm (.int .i64) .imm d1 fun x1 => bindO (laws_markBuf N x0 x1) fun r => k [⟨(.int .i64), .imm, r.1⟩] [⟨(.pair (.sl 2 (.int .i64)) (.pair (.int .i64) (.pair (.int .i64) .unit))), (.pr (.own .imm) .imm), r.2⟩] | _ => none }
noncomputable def laws_markBuf.cfg (N : Nat) : Cfg := { ty := tys, keep := [8], flt := [], elm := [(22, (.own .imm)), (23, (.pr (.own .imm) .imm)), (24, (.pr (.own .imm) .imm)), (27, (.pr (.own .imm) .imm)), (34, (.own .imm)), (37, (.own .imm)), (44, (.own .imm)), (45, (.own (.own .imm))), (53, (.pr (.own (.own .imm)) (.pr .imm (.pr (.own .imm) .imm)))), (54, (.pr (.own (.own .imm)) (.pr .imm (.pr (.own .imm) .imm)))), (63, (.pr (.pr (.own (.own .imm)) (.pr .imm (.pr (.own .imm) .imm))) (.pr (.own .imm) .imm))), (64, (.pr (.pr (.own (.own .imm)) (.pr .imm (.pr (.own .imm) .imm))) (.pr (.own .imm) .imm))), (74, (.pr (.own (.own .imm)) .imm)), (75, (.pr (.own (.own .imm)) .imm)), (77, (.pr (.own (.own .imm)) .imm)), (90, (.pr (.pr (.own .imm) .imm) .imm)), (91, (.pr (.pr (.own .imm) .imm) .imm)), (96, (.own (.pr (.own .imm) .imm))), (97, (.pr (.own (.pr (.own .imm) .imm)) (.pr (.own (.pr (.own .imm) .imm)) .imm))), (98, (.pr (.own (.pr (.own .imm) .imm)) (.pr (.own (.pr (.own .imm) .imm)) .imm))), (99, (.pr (.pr (.own (.pr (.own .imm) .imm)) (.pr (.own (.pr (.own .imm) .imm)) .imm)) (.pr (.pr (.own .imm) .imm) .imm))), (100, (.pr (.pr (.own (.pr (.own .imm) .imm)) (.pr (.own (.pr (.own .imm) .imm)) .imm)) (.pr (.pr (.own .imm) .imm) .imm))), (102, (.own .imm)), (139, (.own .imm)), (142, (.own (.pr (.pr (.own .imm) .imm) .imm))), (143, (.pr .imm (.pr .imm (.pr .imm (.pr (.own (.pr (.pr (.own .imm) .imm) .imm)) (.pr .imm (.pr (.own .imm) .imm))))))), (144, (.pr .imm (.pr .imm (.pr .imm (.pr (.own (.pr (.pr (.own .imm) .imm) .imm)) (.pr .imm (.pr (.own .imm) .imm))))))), (148, (.pr (.pr (.own .imm) .imm) (.pr (.own .imm) .imm))), (149, (.pr (.pr (.own .imm) .imm) (.pr (.own .imm) .imm))), (155, (.pr (.own .imm) .imm)), (156, (.pr (.own .imm) .imm)), (176, (.own (.own (.pr (.own .imm) .imm)))), (177, (.pr .imm (.pr (.own (.own (.pr (.own .imm) .imm))) .imm))), (178, (.pr .imm (.pr (.own (.own (.pr (.own .imm) .imm))) .imm))), (197, (.pr (.own .imm) .imm)), (198, (.pr (.own .imm) .imm)), (199, (.pr (.pr (.own .imm) .imm) .imm)), (200, (.pr (.pr (.own .imm) .imm) .imm)), (201, (.own (.pr (.own .imm) .imm))), (221, (.own .imm))], live := [], ord := [], con := [((22, [.one, .one]), laws_markInt64S.con N)], loops := [], joins := [] }
theorem laws_markBuf.cons (N : Nat) : ConsOk Try.prog (laws_markBuf.cfg N).con := (consOk_cons (hb22) (laws_markInt64S.ok N) (laws_markInt64S.det N) consOk_nil)
theorem laws_markBuf.ls (N : Nat) : LoopsOk Try.prog (laws_markBuf.cfg N) (fnBody Try.f21) := loopsL (l := []) (by kernel_rfl) trivial
theorem laws_markBuf.b (N : Nat) (x0 : den (.pair (.sl 2 (.int .i64)) (.pair (.int .i64) (.pair (.int .i64) .unit)))) (x1 : den (.int .i64)) : body (laws_markBuf.cfg N) N Try.f21 [.one, .one] [.iov, .v] [(false, .imm)] [⟨(.pair (.sl 2 (.int .i64)) (.pair (.int .i64) (.pair (.int .i64) .unit))), (.pr (.own .imm) .imm), x0⟩, ⟨(.int .i64), .imm, x1⟩] (fun r i => some (r, i)) = bindO (laws_markBuf N x0 x1) fun r => some ([⟨(.int .i64), .imm, r.1⟩], [⟨(.pair (.sl 2 (.int .i64)) (.pair (.int .i64) (.pair (.int .i64) .unit))), (.pr (.own .imm) .imm), r.2⟩]) := by
  show _ = bindF _ _
  conv => rhs; simp only [laws_markBuf, bindF_ifB, bindF_bindO, bindF_pure, bindF_none, bindF_onSum]
  kernel_rfl
theorem laws_markBuf.ok (N : Nat) : ConOk Try.prog 21 [.one, .one] (laws_markBuf.con N) := by
  refine conOk_mk (g := laws_markBuf.cfg N) (N := N) (res := [(false, .imm)]) tys_ok (laws_markBuf.cons N) mixed Try.func21 (laws_markBuf.ls N) rfl rfl ?_
  intro ds R k y h
  cases ds with
  | nil => exact none_some h
  | cons d0 ds =>
  cases ds with
  | nil => exact none_some h
  | cons d1 ds =>
  cases ds with
  | cons _ _ => exact none_some h
  | nil =>
  have h0 : (castDm (.pair (.sl 2 (.int .i64)) (.pair (.int .i64) (.pair (.int .i64) .unit))) (.pr (.own .imm) .imm) d0 fun x0 => castDm (.int .i64) .imm d1 fun x1 => bindO (laws_markBuf N x0 x1) fun r => k [⟨(.int .i64), .imm, r.1⟩] [⟨(.pair (.sl 2 (.int .i64)) (.pair (.int .i64) (.pair (.int .i64) .unit))), (.pr (.own .imm) .imm), r.2⟩]) = some y := h
  clear h
  obtain ⟨x0, rfl, h1⟩ := castDm_eq h0
  obtain ⟨x1, rfl, h2⟩ := castDm_eq h1
  exact con_fin (laws_markBuf.b N x0 x1) h2
theorem laws_markBuf.det (N : Nat) : ConDet (laws_markBuf.con N) := by
  intro ds R k y h
  cases ds with
  | nil => exact none_some h
  | cons d0 ds =>
  cases ds with
  | nil => exact none_some h
  | cons d1 ds =>
  cases ds with
  | cons _ _ => exact none_some h
  | nil =>
  have h0 : (castDm (.pair (.sl 2 (.int .i64)) (.pair (.int .i64) (.pair (.int .i64) .unit))) (.pr (.own .imm) .imm) d0 fun x0 => castDm (.int .i64) .imm d1 fun x1 => bindO (laws_markBuf N x0 x1) fun r => k [⟨(.int .i64), .imm, r.1⟩] [⟨(.pair (.sl 2 (.int .i64)) (.pair (.int .i64) (.pair (.int .i64) .unit))), (.pr (.own .imm) .imm), r.2⟩]) = some y := h
  clear h
  obtain ⟨x0, rfl, h1⟩ := castDm_eq h0
  obtain ⟨x1, rfl, h2⟩ := castDm_eq h1
  obtain ⟨r, e, h⟩ := bindO_some h2
  refine ⟨_, _, h, fun k' => ?_⟩
  show (castDm (.pair (.sl 2 (.int .i64)) (.pair (.int .i64) (.pair (.int .i64) .unit))) (.pr (.own .imm) .imm) (⟨(.pair (.sl 2 (.int .i64)) (.pair (.int .i64) (.pair (.int .i64) .unit))), (.pr (.own .imm) .imm), x0⟩ : Dy) fun x0 => castDm (.int .i64) .imm (⟨(.int .i64), .imm, x1⟩ : Dy) fun x1 => bindO (laws_markBuf N x0 x1) fun r => k' [⟨(.int .i64), .imm, r.1⟩] [⟨(.pair (.sl 2 (.int .i64)) (.pair (.int .i64) (.pair (.int .i64) .unit))), (.pr (.own .imm) .imm), r.2⟩]) = _
  simp only [castDm_self]
  rw [e]
  rfl
def laws_heldInt64S.sk2 : Skel := ⟨[.pv (.sl 2 (.int .i64)), .pv (.int .i64), .dead, .dead, .dead, .pv (.int .i64), .dead, .dead, .dead, .dead, .dead, .dead, .dead, .dead, .dead, .dead, .dead, .dead, .dead, .dead, .dead], []⟩
def laws_heldInt64S.xs2 : List XS := [⟨.exit 0, [1], ⟨[.dead, .pv (.int .i64), .dead, .dead, .dead, .dead, .dead, .dead, .dead, .dead, .dead, .dead, .dead, .dead, .dead, .dead, .dead, .dead, .dead, .dead, .dead], []⟩⟩, ⟨.ret, [4], ⟨[.dead, .dead, .dead, .dead, .pv (.int .i64), .dead, .dead, .dead, .dead, .dead, .dead, .dead, .dead, .dead, .dead, .dead, .dead, .dead, .dead, .dead, .dead], []⟩⟩]
noncomputable def laws_heldInt64S.con (N : Nat) : Con := { modes := [.v, .v], ptrs := [false], fn := fun ds k => match ds with | [d0, d1] => castDm (.sl 2 (.int .i64)) .imm d0 fun x0 => castDm (.int .i64) .imm d1 fun x1 => bindO (laws_heldInt64S N x0 x1) fun r => k [⟨(.int .i64), .imm, r⟩] [] | _ => none }
noncomputable def laws_heldInt64S.cfg (N : Nat) : Cfg := { ty := tys, keep := [], flt := [], elm := [(22, (.own .imm)), (23, (.pr (.own .imm) .imm)), (24, (.pr (.own .imm) .imm)), (27, (.pr (.own .imm) .imm)), (34, (.own .imm)), (37, (.own .imm)), (44, (.own .imm)), (45, (.own (.own .imm))), (53, (.pr (.own (.own .imm)) (.pr .imm (.pr (.own .imm) .imm)))), (54, (.pr (.own (.own .imm)) (.pr .imm (.pr (.own .imm) .imm)))), (63, (.pr (.pr (.own (.own .imm)) (.pr .imm (.pr (.own .imm) .imm))) (.pr (.own .imm) .imm))), (64, (.pr (.pr (.own (.own .imm)) (.pr .imm (.pr (.own .imm) .imm))) (.pr (.own .imm) .imm))), (74, (.pr (.own (.own .imm)) .imm)), (75, (.pr (.own (.own .imm)) .imm)), (77, (.pr (.own (.own .imm)) .imm)), (90, (.pr (.pr (.own .imm) .imm) .imm)), (91, (.pr (.pr (.own .imm) .imm) .imm)), (96, (.own (.pr (.own .imm) .imm))), (97, (.pr (.own (.pr (.own .imm) .imm)) (.pr (.own (.pr (.own .imm) .imm)) .imm))), (98, (.pr (.own (.pr (.own .imm) .imm)) (.pr (.own (.pr (.own .imm) .imm)) .imm))), (99, (.pr (.pr (.own (.pr (.own .imm) .imm)) (.pr (.own (.pr (.own .imm) .imm)) .imm)) (.pr (.pr (.own .imm) .imm) .imm))), (100, (.pr (.pr (.own (.pr (.own .imm) .imm)) (.pr (.own (.pr (.own .imm) .imm)) .imm)) (.pr (.pr (.own .imm) .imm) .imm))), (102, (.own .imm)), (139, (.own .imm)), (142, (.own (.pr (.pr (.own .imm) .imm) .imm))), (143, (.pr .imm (.pr .imm (.pr .imm (.pr (.own (.pr (.pr (.own .imm) .imm) .imm)) (.pr .imm (.pr (.own .imm) .imm))))))), (144, (.pr .imm (.pr .imm (.pr .imm (.pr (.own (.pr (.pr (.own .imm) .imm) .imm)) (.pr .imm (.pr (.own .imm) .imm))))))), (148, (.pr (.pr (.own .imm) .imm) (.pr (.own .imm) .imm))), (149, (.pr (.pr (.own .imm) .imm) (.pr (.own .imm) .imm))), (155, (.pr (.own .imm) .imm)), (156, (.pr (.own .imm) .imm)), (176, (.own (.own (.pr (.own .imm) .imm)))), (177, (.pr .imm (.pr (.own (.own (.pr (.own .imm) .imm))) .imm))), (178, (.pr .imm (.pr (.own (.own (.pr (.own .imm) .imm))) .imm))), (197, (.pr (.own .imm) .imm)), (198, (.pr (.own .imm) .imm)), (199, (.pr (.pr (.own .imm) .imm) .imm)), (200, (.pr (.pr (.own .imm) .imm) .imm)), (201, (.own (.pr (.own .imm) .imm))), (221, (.own .imm))], live := [(2, [0, 1, 5])], ord := [], con := [], loops := [(2, loopCon N laws_heldInt64S.sk2 laws_heldInt64S.xs2 (fun {R} => laws_heldInt64S.l2 (R := R) N))], joins := [] }
theorem laws_heldInt64S.cons (N : Nat) : ConsOk Try.prog (laws_heldInt64S.cfg N).con := consOk_nil
theorem laws_heldInt64S.h2 {R : Type} (N : Nat) (d : laws_heldInt64S.sk2.D) (kn : laws_heldInt64S.sk2.D → Option R) (kx : XD laws_heldInt64S.xs2 → Option R) : roundK (laws_heldInt64S.cfg N) N (nthLoop (fnBody Try.f23) 0) laws_heldInt64S.sk2 laws_heldInt64S.xs2 d kn kx = laws_heldInt64S.l2 N d kn kx := by kernel_rfl
theorem laws_heldInt64S.i2 (N : Nat) : LoopsOk Try.prog (laws_heldInt64S.cfg N) (nthLoop (fnBody Try.f23) 0) := loopsL (l := []) (by kernel_rfl) trivial
theorem laws_heldInt64S.o2 (N : Nat) : LoopOk Try.prog (nthLoop (fnBody Try.f23) 0) (loopCon N laws_heldInt64S.sk2 laws_heldInt64S.xs2 (fun {R} => laws_heldInt64S.l2 (R := R) N)) := loop_ok (g := laws_heldInt64S.cfg N) tys_ok (laws_heldInt64S.cons N) mixed (laws_heldInt64S.i2 N) (fun d kn kx => laws_heldInt64S.h2 N d kn kx)
theorem laws_heldInt64S.ls (N : Nat) : LoopsOk Try.prog (laws_heldInt64S.cfg N) (fnBody Try.f23) := loopsL (l := [nthLoop (fnBody Try.f23) 0]) (by kernel_rfl) ⟨loopOne (L0 := loopCon N laws_heldInt64S.sk2 laws_heldInt64S.xs2 (fun {R} => laws_heldInt64S.l2 (R := R) N)) (id := 2) (by kernel_rfl) (by kernel_rfl) (laws_heldInt64S.o2 N), trivial⟩
theorem laws_heldInt64S.q2 {R R' : Type} {N n : Nat} {d} {k} {g : R → Option R'} : bindF (loopP (laws_heldInt64S.l2 N) n d k) g = loopP (laws_heldInt64S.l2 N) n d fun e => bindF (k e) g := bindF_loopP (fun d kn kx => by simp only [laws_heldInt64S.l2, bindF_ifB, bindF_bindO, bindF_pure, bindF_none, bindF_onSum]) n d k
theorem laws_heldInt64S.b (N : Nat) (x0 : den (.sl 2 (.int .i64))) (x1 : den (.int .i64)) : body (laws_heldInt64S.cfg N) N Try.f23 [.one, .one] [.v, .v] [(false, .imm)] [⟨(.sl 2 (.int .i64)), .imm, x0⟩, ⟨(.int .i64), .imm, x1⟩] (fun r i => some (r, i)) = bindO (laws_heldInt64S N x0 x1) fun r => some ([⟨(.int .i64), .imm, r⟩], []) := by
  show _ = bindF _ _
  conv => rhs; simp only [laws_heldInt64S, bindF_ifB, bindF_bindO, bindF_pure, bindF_none, bindF_onSum, laws_heldInt64S.q2]
  kernel_rfl
theorem laws_heldInt64S.ok (N : Nat) : ConOk Try.prog 23 [.one, .one] (laws_heldInt64S.con N) := by
  refine conOk_mk (g := laws_heldInt64S.cfg N) (N := N) (res := [(false, .imm)]) tys_ok (laws_heldInt64S.cons N) mixed Try.func23 (laws_heldInt64S.ls N) rfl rfl ?_
  intro ds R k y h
  cases ds with
  | nil => exact none_some h
  | cons d0 ds =>
  cases ds with
  | nil => exact none_some h
  | cons d1 ds =>
  cases ds with
  | cons _ _ => exact none_some h
  | nil =>
  have h0 : (castDm (.sl 2 (.int .i64)) .imm d0 fun x0 => castDm (.int .i64) .imm d1 fun x1 => bindO (laws_heldInt64S N x0 x1) fun r => k [⟨(.int .i64), .imm, r⟩] []) = some y := h
  clear h
  obtain ⟨x0, rfl, h1⟩ := castDm_eq h0
  obtain ⟨x1, rfl, h2⟩ := castDm_eq h1
  exact con_fin (laws_heldInt64S.b N x0 x1) h2
theorem laws_heldInt64S.det (N : Nat) : ConDet (laws_heldInt64S.con N) := by
  intro ds R k y h
  cases ds with
  | nil => exact none_some h
  | cons d0 ds =>
  cases ds with
  | nil => exact none_some h
  | cons d1 ds =>
  cases ds with
  | cons _ _ => exact none_some h
  | nil =>
  have h0 : (castDm (.sl 2 (.int .i64)) .imm d0 fun x0 => castDm (.int .i64) .imm d1 fun x1 => bindO (laws_heldInt64S N x0 x1) fun r => k [⟨(.int .i64), .imm, r⟩] []) = some y := h
  clear h
  obtain ⟨x0, rfl, h1⟩ := castDm_eq h0
  obtain ⟨x1, rfl, h2⟩ := castDm_eq h1
  obtain ⟨r, e, h⟩ := bindO_some h2
  refine ⟨_, _, h, fun k' => ?_⟩
  show (castDm (.sl 2 (.int .i64)) .imm (⟨(.sl 2 (.int .i64)), .imm, x0⟩ : Dy) fun x0 => castDm (.int .i64) .imm (⟨(.int .i64), .imm, x1⟩ : Dy) fun x1 => bindO (laws_heldInt64S N x0 x1) fun r => k' [⟨(.int .i64), .imm, r⟩] []) = _
  simp only [castDm_self]
  rw [e]
  rfl
noncomputable def laws_FnExactWordAhead.con (N : Nat) : Con := { modes := [.v], ptrs := [false], fn := fun ds k => match ds with | [d0] => castDm (.pair (.sl 2 (.int .i64)) (.pair (.int .i64) (.pair (.int .i64) .unit))) .imm d0 fun x0 => bindO (laws_FnExactWordAhead N x0) fun r => k [⟨.bool, .imm, r⟩] [] | _ => none }
noncomputable def laws_FnExactWordAhead.cfg (N : Nat) : Cfg := { ty := tys, keep := [13, 17, 18, 20, 22, 25, 29, 30, 34, 40, 45, 48, 55, 56, 59, 63], flt := [], elm := [(22, (.own .imm)), (23, (.pr (.own .imm) .imm)), (24, (.pr (.own .imm) .imm)), (27, (.pr (.own .imm) .imm)), (34, (.own .imm)), (37, (.own .imm)), (44, (.own .imm)), (45, (.own (.own .imm))), (53, (.pr (.own (.own .imm)) (.pr .imm (.pr (.own .imm) .imm)))), (54, (.pr (.own (.own .imm)) (.pr .imm (.pr (.own .imm) .imm)))), (63, (.pr (.pr (.own (.own .imm)) (.pr .imm (.pr (.own .imm) .imm))) (.pr (.own .imm) .imm))), (64, (.pr (.pr (.own (.own .imm)) (.pr .imm (.pr (.own .imm) .imm))) (.pr (.own .imm) .imm))), (74, (.pr (.own (.own .imm)) .imm)), (75, (.pr (.own (.own .imm)) .imm)), (77, (.pr (.own (.own .imm)) .imm)), (90, (.pr (.pr (.own .imm) .imm) .imm)), (91, (.pr (.pr (.own .imm) .imm) .imm)), (96, (.own (.pr (.own .imm) .imm))), (97, (.pr (.own (.pr (.own .imm) .imm)) (.pr (.own (.pr (.own .imm) .imm)) .imm))), (98, (.pr (.own (.pr (.own .imm) .imm)) (.pr (.own (.pr (.own .imm) .imm)) .imm))), (99, (.pr (.pr (.own (.pr (.own .imm) .imm)) (.pr (.own (.pr (.own .imm) .imm)) .imm)) (.pr (.pr (.own .imm) .imm) .imm))), (100, (.pr (.pr (.own (.pr (.own .imm) .imm)) (.pr (.own (.pr (.own .imm) .imm)) .imm)) (.pr (.pr (.own .imm) .imm) .imm))), (102, (.own .imm)), (139, (.own .imm)), (142, (.own (.pr (.pr (.own .imm) .imm) .imm))), (143, (.pr .imm (.pr .imm (.pr .imm (.pr (.own (.pr (.pr (.own .imm) .imm) .imm)) (.pr .imm (.pr (.own .imm) .imm))))))), (144, (.pr .imm (.pr .imm (.pr .imm (.pr (.own (.pr (.pr (.own .imm) .imm) .imm)) (.pr .imm (.pr (.own .imm) .imm))))))), (148, (.pr (.pr (.own .imm) .imm) (.pr (.own .imm) .imm))), (149, (.pr (.pr (.own .imm) .imm) (.pr (.own .imm) .imm))), (155, (.pr (.own .imm) .imm)), (156, (.pr (.own .imm) .imm)), (176, (.own (.own (.pr (.own .imm) .imm)))), (177, (.pr .imm (.pr (.own (.own (.pr (.own .imm) .imm))) .imm))), (178, (.pr .imm (.pr (.own (.own (.pr (.own .imm) .imm))) .imm))), (197, (.pr (.own .imm) .imm)), (198, (.pr (.own .imm) .imm)), (199, (.pr (.pr (.own .imm) .imm) .imm)), (200, (.pr (.pr (.own .imm) .imm) .imm)), (201, (.own (.pr (.own .imm) .imm))), (221, (.own .imm))], live := [], ord := [(10, [0, 1, 2, 3, 4])], con := [((15, [.one, .one]), laws_szBuf.con N), ((17, [.one]), laws_toBuf.con N), ((16, [.one]), spec_WordAhead.con N), ((18, [.one]), impl_WordAhead.con N), ((19, [.one, .one]), laws_eqInt64S.con N), ((20, [.one, .one]), laws_eqBuf.con N), ((21, [.one, .one]), laws_markBuf.con N), ((22, [.one, .one]), laws_markInt64S.con N), ((23, [.one, .one]), laws_heldInt64S.con N)], loops := [], joins := [] }
theorem laws_FnExactWordAhead.cons (N : Nat) : ConsOk Try.prog (laws_FnExactWordAhead.cfg N).con := (consOk_cons (hb15) (laws_szBuf.ok N) (laws_szBuf.det N) (consOk_cons (hb17) (laws_toBuf.ok N) (laws_toBuf.det N) (consOk_cons (hb16) (spec_WordAhead.ok N) (spec_WordAhead.det N) (consOk_cons (hb18) (impl_WordAhead.ok N) (impl_WordAhead.det N) (consOk_cons (hb19) (laws_eqInt64S.ok N) (laws_eqInt64S.det N) (consOk_cons (hb20) (laws_eqBuf.ok N) (laws_eqBuf.det N) (consOk_cons (hb21) (laws_markBuf.ok N) (laws_markBuf.det N) (consOk_cons (hb22) (laws_markInt64S.ok N) (laws_markInt64S.det N) (consOk_cons (hb23) (laws_heldInt64S.ok N) (laws_heldInt64S.det N) consOk_nil)))))))))
theorem laws_FnExactWordAhead.ls (N : Nat) : LoopsOk Try.prog (laws_FnExactWordAhead.cfg N) (fnBody Try.f3) := loopsL (l := []) (by kernel_rfl) trivial
theorem laws_FnExactWordAhead.b (N : Nat) (x0 : den (.pair (.sl 2 (.int .i64)) (.pair (.int .i64) (.pair (.int .i64) .unit)))) : body (laws_FnExactWordAhead.cfg N) N Try.f3 [.one] [.v] [(false, .imm)] [⟨(.pair (.sl 2 (.int .i64)) (.pair (.int .i64) (.pair (.int .i64) .unit))), .imm, x0⟩] (fun r i => some (r, i)) = bindO (laws_FnExactWordAhead N x0) fun r => some ([⟨.bool, .imm, r⟩], []) := by
  show _ = bindF _ _
  conv => rhs; simp only [laws_FnExactWordAhead, bindF_ifB, bindF_bindO, bindF_pure, bindF_none, bindF_onSum]
  kernel_rfl
theorem laws_FnExactWordAhead.ok (N : Nat) : ConOk Try.prog 3 [.one] (laws_FnExactWordAhead.con N) := by
  refine conOk_mk (g := laws_FnExactWordAhead.cfg N) (N := N) (res := [(false, .imm)]) tys_ok (laws_FnExactWordAhead.cons N) mixed Try.func3 (laws_FnExactWordAhead.ls N) rfl rfl ?_
  intro ds R k y h
  cases ds with
  | nil => exact none_some h
  | cons d0 ds =>
  cases ds with
  | cons _ _ => exact none_some h
  | nil =>
  have h0 : (castDm (.pair (.sl 2 (.int .i64)) (.pair (.int .i64) (.pair (.int .i64) .unit))) .imm d0 fun x0 => bindO (laws_FnExactWordAhead N x0) fun r => k [⟨.bool, .imm, r⟩] []) = some y := h
  clear h
  obtain ⟨x0, rfl, h1⟩ := castDm_eq h0
  exact con_fin (laws_FnExactWordAhead.b N x0) h1
theorem laws_FnExactWordAhead.det (N : Nat) : ConDet (laws_FnExactWordAhead.con N) := by
  intro ds R k y h
  cases ds with
  | nil => exact none_some h
  | cons d0 ds =>
  cases ds with
  | cons _ _ => exact none_some h
  | nil =>
  have h0 : (castDm (.pair (.sl 2 (.int .i64)) (.pair (.int .i64) (.pair (.int .i64) .unit))) .imm d0 fun x0 => bindO (laws_FnExactWordAhead N x0) fun r => k [⟨.bool, .imm, r⟩] []) = some y := h
  clear h
  obtain ⟨x0, rfl, h1⟩ := castDm_eq h0
  obtain ⟨r, e, h⟩ := bindO_some h1
  refine ⟨_, _, h, fun k' => ?_⟩
  show (castDm (.pair (.sl 2 (.int .i64)) (.pair (.int .i64) (.pair (.int .i64) .unit))) .imm (⟨(.pair (.sl 2 (.int .i64)) (.pair (.int .i64) (.pair (.int .i64) .unit))), .imm, x0⟩ : Dy) fun x0 => bindO (laws_FnExactWordAhead N x0) fun r => k' [⟨.bool, .imm, r⟩] []) = _
  simp only [castDm_self]
  rw [e]
  rfl
end Go.AE.F
