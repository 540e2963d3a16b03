/- The printed functions are what the program comes to: contracts. -/
import Derived.Test.YtpjiohalaippkaaXOpsUsedL1
namespace Go.AE.F
open Go.AE Go.Proofs
set_option maxRecDepth 100000
def laws_eqOpS.sk4 : Skel := ⟨[.pv (.sl 32 (.pair (.int .i64) (.pair (.int .i64) .unit))), .pv (.sl 32 (.pair (.int .i64) (.pair (.int .i64) .unit))), .dead, .dead, .dead, .pv (.int .i64), .dead, .dead, .dead, .dead, .dead, .dead, .dead, .dead, .dead, .dead, .dead, .dead, .dead, .dead, .dead, .dead, .dead, .dead, .dead, .dead, .dead], []⟩
def laws_eqOpS.xs4 : List XS := [⟨.exit 0, [], ⟨[.dead, .dead, .dead, .dead, .dead, .dead, .dead, .dead, .dead, .dead, .dead, .dead, .dead, .dead, .dead, .dead, .dead, .dead, .dead, .dead, .dead, .dead, .dead, .dead, .dead, .dead, .dead], []⟩⟩, ⟨.ret, [4], ⟨[.dead, .dead, .dead, .dead, .pv .bool, .dead, .dead, .dead, .dead, .dead, .dead, .dead, .dead, .dead, .dead, .dead, .dead, .dead, .dead, .dead, .dead, .dead, .dead, .dead, .dead, .dead, .dead], []⟩⟩]
noncomputable def laws_eqOpS.con (N : Nat) : Con := { modes := [.v, .v], ptrs := [false], fn := fun ds k => match ds with | [d0, d1] => castDm (.sl 32 (.pair (.int .i64) (.pair (.int .i64) .unit))) .imm d0 fun x0 => castDm (.sl 32 (.pair (.int .i64) (.pair (.int .i64) .unit))) .imm d1 fun x1 => bindO (laws_eqOpS N x0 x1) fun r => k [⟨.bool, .imm, r⟩] [] | _ => none }
noncomputable def laws_eqOpS.cfg (N : Nat) : Cfg := { ty := tys, keep := [25], flt := [], elm := [(22, (.own .imm)), (25, (.own .imm)), (33, (.own .imm))], live := [(4, [0, 1, 5])], ord := [(6, [0, 1, 2, 3, 4, 5, 6, 7, 8, 9])], con := [((16, [.one, .one]), laws_eqOp.con N)], loops := [(4, loopCon N laws_eqOpS.sk4 laws_eqOpS.xs4 (fun {R} => laws_eqOpS.l4 (R := R) N))], joins := [] }
theorem laws_eqOpS.cons (N : Nat) : ConsOk Try.prog (laws_eqOpS.cfg N).con := (consOk_cons (hb16) (laws_eqOp.ok N) (laws_eqOp.det N) consOk_nil)
theorem laws_eqOpS.h4 {R : Type} (N : Nat) (d : laws_eqOpS.sk4.D) (kn : laws_eqOpS.sk4.D → Option R) (kx : XD laws_eqOpS.xs4 → Option R) : roundK (laws_eqOpS.cfg N) N (nthLoop (fnBody Try.f9) 0) laws_eqOpS.sk4 laws_eqOpS.xs4 d kn kx = laws_eqOpS.l4 N d kn kx := by kernel_rfl
theorem laws_eqOpS.i4 (N : Nat) : LoopsOk Try.prog (laws_eqOpS.cfg N) (nthLoop (fnBody Try.f9) 0) := loopsL (l := []) (by kernel_rfl) trivial
theorem laws_eqOpS.o4 (N : Nat) : LoopOk Try.prog (nthLoop (fnBody Try.f9) 0) (loopCon N laws_eqOpS.sk4 laws_eqOpS.xs4 (fun {R} => laws_eqOpS.l4 (R := R) N)) := loop_ok (g := laws_eqOpS.cfg N) tys_ok (laws_eqOpS.cons N) mixed (laws_eqOpS.i4 N) (fun d kn kx => laws_eqOpS.h4 N d kn kx)
theorem laws_eqOpS.ls (N : Nat) : LoopsOk Try.prog (laws_eqOpS.cfg N) (fnBody Try.f9) := loopsL (l := [nthLoop (fnBody Try.f9) 0]) (by kernel_rfl) ⟨loopOne (L0 := loopCon N laws_eqOpS.sk4 laws_eqOpS.xs4 (fun {R} => laws_eqOpS.l4 (R := R) N)) (id := 4) (by kernel_rfl) (by kernel_rfl) (laws_eqOpS.o4 N), trivial⟩
theorem laws_eqOpS.q4 {R R' : Type} {N n : Nat} {d} {k} {g : R → Option R'} : bindF (loopP (laws_eqOpS.l4 N) n d k) g = loopP (laws_eqOpS.l4 N) n d fun e => bindF (k e) g := bindF_loopP (fun d kn kx => by simp only [laws_eqOpS.l4, bindF_ifB, bindF_bindO, bindF_pure, bindF_none, bindF_onSum]) n d k
theorem laws_eqOpS.b (N : Nat) (x0 : den (.sl 32 (.pair (.int .i64) (.pair (.int .i64) .unit)))) (x1 : den (.sl 32 (.pair (.int .i64) (.pair (.int .i64) .unit)))) : body (laws_eqOpS.cfg N) N Try.f9 [.one, .one] [.v, .v] [(false, .imm)] [⟨(.sl 32 (.pair (.int .i64) (.pair (.int .i64) .unit))), .imm, x0⟩, ⟨(.sl 32 (.pair (.int .i64) (.pair (.int .i64) .unit))), .imm, x1⟩] (fun r i => some (r, i)) = bindO (laws_eqOpS N x0 x1) fun r => some ([⟨.bool, .imm, r⟩], []) := by
  show _ = bindF _ _
  conv => rhs; simp only [laws_eqOpS, bindF_ifB, bindF_bindO, bindF_pure, bindF_none, bindF_onSum, laws_eqOpS.q4]
  kernel_rfl
theorem laws_eqOpS.ok (N : Nat) : ConOk Try.prog 9 [.one, .one] (laws_eqOpS.con N) := by
  refine conOk_mk (g := laws_eqOpS.cfg N) (N := N) (res := [(false, .imm)]) tys_ok (laws_eqOpS.cons N) mixed Try.func9 (laws_eqOpS.ls N) rfl rfl ?_
  intro ds R k y h
  cases ds with
  | nil => exact none_some h
  | cons d0 ds =>
  cases ds with
  | nil => exact none_some h
  | cons d1 ds =>
  cases ds with
  | cons _ _ => exact none_some h
  | nil =>
  have h0 : (castDm (.sl 32 (.pair (.int .i64) (.pair (.int .i64) .unit))) .imm d0 fun x0 => castDm (.sl 32 (.pair (.int .i64) (.pair (.int .i64) .unit))) .imm d1 fun x1 => bindO (laws_eqOpS N x0 x1) fun r => k [⟨.bool, .imm, r⟩] []) = some y := h
  clear h
  obtain ⟨x0, rfl, h1⟩ := castDm_eq h0
  obtain ⟨x1, rfl, h2⟩ := castDm_eq h1
  exact con_fin (laws_eqOpS.b N x0 x1) h2
theorem laws_eqOpS.det (N : Nat) : ConDet (laws_eqOpS.con N) := by
  intro ds R k y h
  cases ds with
  | nil => exact none_some h
  | cons d0 ds =>
  cases ds with
  | nil => exact none_some h
  | cons d1 ds =>
  cases ds with
  | cons _ _ => exact none_some h
  | nil =>
  have h0 : (castDm (.sl 32 (.pair (.int .i64) (.pair (.int .i64) .unit))) .imm d0 fun x0 => castDm (.sl 32 (.pair (.int .i64) (.pair (.int .i64) .unit))) .imm d1 fun x1 => bindO (laws_eqOpS N x0 x1) fun r => k [⟨.bool, .imm, r⟩] []) = some y := h
  clear h
  obtain ⟨x0, rfl, h1⟩ := castDm_eq h0
  obtain ⟨x1, rfl, h2⟩ := castDm_eq h1
  obtain ⟨r, e, h⟩ := bindO_some h2
  refine ⟨_, _, h, fun k' => ?_⟩
  show (castDm (.sl 32 (.pair (.int .i64) (.pair (.int .i64) .unit))) .imm (⟨(.sl 32 (.pair (.int .i64) (.pair (.int .i64) .unit))), .imm, x0⟩ : Dy) fun x0 => castDm (.sl 32 (.pair (.int .i64) (.pair (.int .i64) .unit))) .imm (⟨(.sl 32 (.pair (.int .i64) (.pair (.int .i64) .unit))), .imm, x1⟩ : Dy) fun x1 => bindO (laws_eqOpS N x0 x1) fun r => k' [⟨.bool, .imm, r⟩] []) = _
  simp only [castDm_self]
  rw [e]
  rfl
noncomputable def laws_FnExactOpsUsed.con (N : Nat) : Con := { modes := [.v], ptrs := [false], fn := fun ds k => match ds with | [d0] => castDm (.sl 37 (.pair (.int .i64) (.pair (.int .i64) .unit))) .imm d0 fun x0 => bindO (laws_FnExactOpsUsed N x0) fun r => k [⟨.bool, .imm, r⟩] [] | _ => none }
noncomputable def laws_FnExactOpsUsed.cfg (N : Nat) : Cfg := { ty := tys, keep := [9, 13, 14, 16, 18, 24, 25], flt := [], elm := [(22, (.own .imm)), (25, (.own .imm)), (33, (.own .imm))], live := [], ord := [], con := [((5, [.one, .one]), laws_szOpS.con N), ((7, [.one]), laws_toOpS.con N), ((10, [.one]), spec_OpsUsed.con N), ((11, [.one]), impl_OpsUsed.con N), ((9, [.one, .one]), laws_eqOpS.con N)], loops := [], joins := [] }
theorem laws_FnExactOpsUsed.cons (N : Nat) : ConsOk Try.prog (laws_FnExactOpsUsed.cfg N).con := (consOk_cons (hb5) (laws_szOpS.ok N) (laws_szOpS.det N) (consOk_cons (hb7) (laws_toOpS.ok N) (laws_toOpS.det N) (consOk_cons (hb10) (spec_OpsUsed.ok N) (spec_OpsUsed.det N) (consOk_cons (hb11) (impl_OpsUsed.ok N) (impl_OpsUsed.det N) (consOk_cons (hb9) (laws_eqOpS.ok N) (laws_eqOpS.det N) consOk_nil)))))
theorem laws_FnExactOpsUsed.ls (N : Nat) : LoopsOk Try.prog (laws_FnExactOpsUsed.cfg N) (fnBody Try.f4) := loopsL (l := []) (by kernel_rfl) trivial
theorem laws_FnExactOpsUsed.b (N : Nat) (x0 : den (.sl 37 (.pair (.int .i64) (.pair (.int .i64) .unit)))) : body (laws_FnExactOpsUsed.cfg N) N Try.f4 [.one] [.v] [(false, .imm)] [⟨(.sl 37 (.pair (.int .i64) (.pair (.int .i64) .unit))), .imm, x0⟩] (fun r i => some (r, i)) = bindO (laws_FnExactOpsUsed N x0) fun r => some ([⟨.bool, .imm, r⟩], []) := by
  show _ = bindF _ _
  conv => rhs; simp only [laws_FnExactOpsUsed, bindF_ifB, bindF_bindO, bindF_pure, bindF_none, bindF_onSum]
  kernel_rfl
theorem laws_FnExactOpsUsed.ok (N : Nat) : ConOk Try.prog 4 [.one] (laws_FnExactOpsUsed.con N) := by
  refine conOk_mk (g := laws_FnExactOpsUsed.cfg N) (N := N) (res := [(false, .imm)]) tys_ok (laws_FnExactOpsUsed.cons N) mixed Try.func4 (laws_FnExactOpsUsed.ls N) rfl rfl ?_
  intro ds R k y h
  cases ds with
  | nil => exact none_some h
  | cons d0 ds =>
  cases ds with
  | cons _ _ => exact none_some h
  | nil =>
  have h0 : (castDm (.sl 37 (.pair (.int .i64) (.pair (.int .i64) .unit))) .imm d0 fun x0 => bindO (laws_FnExactOpsUsed N x0) fun r => k [⟨.bool, .imm, r⟩] []) = some y := h
  clear h
  obtain ⟨x0, rfl, h1⟩ := castDm_eq h0
  exact con_fin (laws_FnExactOpsUsed.b N x0) h1
theorem laws_FnExactOpsUsed.det (N : Nat) : ConDet (laws_FnExactOpsUsed.con N) := by
  intro ds R k y h
  cases ds with
  | nil => exact none_some h
  | cons d0 ds =>
  cases ds with
  | cons _ _ => exact none_some h
  | nil =>
  have h0 : (castDm (.sl 37 (.pair (.int .i64) (.pair (.int .i64) .unit))) .imm d0 fun x0 => bindO (laws_FnExactOpsUsed N x0) fun r => k [⟨.bool, .imm, r⟩] []) = some y := h
  clear h
  obtain ⟨x0, rfl, h1⟩ := castDm_eq h0
  obtain ⟨r, e, h⟩ := bindO_some h1
  refine ⟨_, _, h, fun k' => ?_⟩
  show (castDm (.sl 37 (.pair (.int .i64) (.pair (.int .i64) .unit))) .imm (⟨(.sl 37 (.pair (.int .i64) (.pair (.int .i64) .unit))), .imm, x0⟩ : Dy) fun x0 => bindO (laws_FnExactOpsUsed N x0) fun r => k' [⟨.bool, .imm, r⟩] []) = _
  simp only [castDm_self]
  rw [e]
  rfl
end Go.AE.F
