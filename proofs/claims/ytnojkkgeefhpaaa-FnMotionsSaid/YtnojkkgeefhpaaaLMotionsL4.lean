/- The printed functions are what the program comes to: contracts. -/
import Derived.Test.YtnojkkgeefhpaaaLMotionsL3
namespace Go.AE.F
open Go.AE Go.Proofs
set_option maxRecDepth 100000
noncomputable def laws_lwBuf.con (N : Nat) : Con := { modes := [.v, .v], ptrs := [false], fn := fun ds k => match ds with | [d0, d1] => castDm (.pair (.sl 2 (.int .i64)) (.pair (.int .i64) (.pair (.int .i64) .unit))) .imm d0 fun x0 => castDm (.pair (.sl 2 (.int .i64)) (.pair (.int .i64) (.pair (.int .i64) .unit))) .imm d1 fun x1 => bindO (laws_lwBuf N x0 x1) fun r => k [⟨.bool, .imm, r⟩] [] | _ => none }
noncomputable def laws_lwBuf.cfg (N : Nat) : Cfg := { ty := tys, keep := [9], flt := [], elm := [(22, (.own .imm)), (23, (.own .imm)), (24, (.pr (.own .imm) .imm)), (25, (.pr (.own .imm) .imm)), (54, (.pr (.own .imm) .imm)), (55, (.pr (.own .imm) .imm))], live := [], ord := [], con := [((9, [.one, .one]), laws_lwSame.con N)], loops := [], joins := [] }
theorem laws_lwBuf.cons (N : Nat) : ConsOk Try.prog (laws_lwBuf.cfg N).con := (consOk_cons (hb9) (laws_lwSame.ok N) (laws_lwSame.det N) consOk_nil)
theorem laws_lwBuf.ls (N : Nat) : LoopsOk Try.prog (laws_lwBuf.cfg N) (fnBody Try.f7) := loopsL (l := []) (by kernel_rfl) trivial
theorem laws_lwBuf.b (N : Nat) (x0 : den (.pair (.sl 2 (.int .i64)) (.pair (.int .i64) (.pair (.int .i64) .unit)))) (x1 : den (.pair (.sl 2 (.int .i64)) (.pair (.int .i64) (.pair (.int .i64) .unit)))) : body (laws_lwBuf.cfg N) N Try.f7 [.one, .one] [.v, .v] [(false, .imm)] [⟨(.pair (.sl 2 (.int .i64)) (.pair (.int .i64) (.pair (.int .i64) .unit))), .imm, x0⟩, ⟨(.pair (.sl 2 (.int .i64)) (.pair (.int .i64) (.pair (.int .i64) .unit))), .imm, x1⟩] (fun r i => some (r, i)) = bindO (laws_lwBuf N x0 x1) fun r => some ([⟨.bool, .imm, r⟩], []) := by
  show _ = bindF _ _
  conv => rhs; simp only [laws_lwBuf, bindF_ifB, bindF_bindO, bindF_pure, bindF_none, bindF_onSum]
  kernel_rfl
theorem laws_lwBuf.ok (N : Nat) : ConOk Try.prog 7 [.one, .one] (laws_lwBuf.con N) := by
  refine conOk_mk (g := laws_lwBuf.cfg N) (N := N) (res := [(false, .imm)]) tys_ok (laws_lwBuf.cons N) mixed Try.func7 (laws_lwBuf.ls N) rfl rfl ?_
  intro ds R k y h
  cases ds with
  | nil => exact none_some h
  | cons d0 ds =>
  cases ds with
  | nil => exact none_some h
  | cons d1 ds =>
  cases ds with
  | cons _ _ => exact none_some h
  | nil =>
  have h0 : (castDm (.pair (.sl 2 (.int .i64)) (.pair (.int .i64) (.pair (.int .i64) .unit))) .imm d0 fun x0 => castDm (.pair (.sl 2 (.int .i64)) (.pair (.int .i64) (.pair (.int .i64) .unit))) .imm d1 fun x1 => bindO (laws_lwBuf N x0 x1) fun r => k [⟨.bool, .imm, r⟩] []) = some y := h
  clear h
  obtain ⟨x0, rfl, h1⟩ := castDm_eq h0
  obtain ⟨x1, rfl, h2⟩ := castDm_eq h1
  exact con_fin (laws_lwBuf.b N x0 x1) h2
theorem laws_lwBuf.det (N : Nat) : ConDet (laws_lwBuf.con N) := by
  intro ds R k y h
  cases ds with
  | nil => exact none_some h
  | cons d0 ds =>
  cases ds with
  | nil => exact none_some h
  | cons d1 ds =>
  cases ds with
  | cons _ _ => exact none_some h
  | nil =>
  have h0 : (castDm (.pair (.sl 2 (.int .i64)) (.pair (.int .i64) (.pair (.int .i64) .unit))) .imm d0 fun x0 => castDm (.pair (.sl 2 (.int .i64)) (.pair (.int .i64) (.pair (.int .i64) .unit))) .imm d1 fun x1 => bindO (laws_lwBuf N x0 x1) fun r => k [⟨.bool, .imm, r⟩] []) = some y := h
  clear h
  obtain ⟨x0, rfl, h1⟩ := castDm_eq h0
  obtain ⟨x1, rfl, h2⟩ := castDm_eq h1
  obtain ⟨r, e, h⟩ := bindO_some h2
  refine ⟨_, _, h, fun k' => ?_⟩
  show (castDm (.pair (.sl 2 (.int .i64)) (.pair (.int .i64) (.pair (.int .i64) .unit))) .imm (⟨(.pair (.sl 2 (.int .i64)) (.pair (.int .i64) (.pair (.int .i64) .unit))), .imm, x0⟩ : Dy) fun x0 => castDm (.pair (.sl 2 (.int .i64)) (.pair (.int .i64) (.pair (.int .i64) .unit))) .imm (⟨(.pair (.sl 2 (.int .i64)) (.pair (.int .i64) (.pair (.int .i64) .unit))), .imm, x1⟩ : Dy) fun x1 => bindO (laws_lwBuf N x0 x1) fun r => k' [⟨.bool, .imm, r⟩] []) = _
  simp only [castDm_self]
  rw [e]
  rfl
def laws_FnMotions.sk16 : Skel := ⟨[.dead, .dead, .dead, .ptr 50 [], .pv (.int .i64), .pv (.int .i64), .pv (.int .i64), .dead, .pv (.int .i64), .ptr 51 [], .pv (.int .i64), .dead, .dead, .dead, .dead, .dead, .dead, .dead, .dead, .dead, .dead, .dead, .dead, .dead, .dead, .dead, .dead, .dead, .dead, .dead, .dead, .dead, .dead, .dead, .dead, .dead, .dead, .dead, .dead, .dead, .dead, .dead, .dead, .dead, .dead, .dead, .dead, .dead, .dead, .dead, .dead, .dead, .dead, .dead, .dead, .dead, .dead, .dead, .dead, .dead, .dead, .dead, .dead, .dead, .dead, .dead, .dead, .dead, .dead, .dead, .dead, .dead, .dead, .dead, .dead, .dead, .dead, .dead, .dead, .dead, .dead, .dead, .dead, .dead, .dead, .dead, .dead, .dead, .dead, .dead], [⟨50, (.pair (.sl 2 (.int .i64)) (.pair (.int .i64) (.pair (.int .i64) .unit))), .imm, true, false⟩, ⟨51, (.pair (.sl 2 (.int .i64)) (.pair (.int .i64) (.pair (.int .i64) .unit))), .imm, true, false⟩]⟩
def laws_FnMotions.xs16 : List XS := [⟨.exit 0, [3, 8, 9, 77, 78, 79, 80, 81, 84, 85, 86, 87, 88], ⟨[.dead, .dead, .dead, .ptr 50 [], .dead, .dead, .dead, .dead, .pv (.int .i64), .ptr 51 [], .dead, .dead, .dead, .dead, .dead, .dead, .dead, .dead, .dead, .dead, .dead, .dead, .dead, .dead, .dead, .dead, .dead, .dead, .dead, .dead, .dead, .dead, .dead, .dead, .dead, .dead, .dead, .dead, .dead, .dead, .dead, .dead, .dead, .dead, .dead, .dead, .dead, .dead, .dead, .dead, .dead, .dead, .dead, .dead, .dead, .dead, .dead, .dead, .dead, .dead, .dead, .dead, .dead, .dead, .dead, .dead, .dead, .dead, .dead, .dead, .dead, .dead, .dead, .dead, .dead, .dead, .dead, .dead, .dead, .dead, .dead, .dead, .dead, .dead, .dead, .dead, .dead, .dead, .dead, .dead], [⟨50, (.pair (.sl 2 (.int .i64)) (.pair (.int .i64) (.pair (.int .i64) .unit))), .imm, true, false⟩, ⟨51, (.pair (.sl 2 (.int .i64)) (.pair (.int .i64) (.pair (.int .i64) .unit))), .imm, true, false⟩]⟩⟩]
noncomputable def laws_FnMotions.con (N : Nat) : Con := { modes := [.v], ptrs := [false], fn := fun ds k => match ds with | [d0] => castDm (.sl 5 (.int .u8)) .imm d0 fun x0 => bindO (laws_FnMotions N x0) fun r => k [⟨.bool, .imm, r⟩] [] | _ => none }
noncomputable def laws_FnMotions.cfg (N : Nat) : Cfg := { ty := tys, keep := [], flt := [], elm := [(22, (.own .imm)), (23, (.own .imm)), (24, (.pr (.own .imm) .imm)), (25, (.pr (.own .imm) .imm)), (54, (.pr (.own .imm) .imm)), (55, (.pr (.own .imm) .imm))], live := [(16, [3, 4, 5, 6, 8, 9, 10, 77, 78, 79, 80, 81, 84, 85, 86, 87, 88])], ord := [(9, [0, 1, 2, 3, 5, 4, 6, 7])], con := [((4, [.one]), spec_DrawMotion.con N), ((5, [.one, .one, .one, .one]), spec_Motion.con N), ((6, [.one, .one, .one, .one]), impl_Motion.con N), ((8, [.one, .one, .one, .one]), impl_BufMove.con N), ((7, [.one, .one]), laws_lwBuf.con N), ((9, [.one, .one]), laws_lwSame.con N)], loops := [(16, loopCon N laws_FnMotions.sk16 laws_FnMotions.xs16 (fun {R} => laws_FnMotions.l16 (R := R) N))], joins := [] }
theorem laws_FnMotions.cons (N : Nat) : ConsOk Try.prog (laws_FnMotions.cfg N).con := (consOk_cons (hb4) (spec_DrawMotion.ok N) (spec_DrawMotion.det N) (consOk_cons (hb5) (spec_Motion.ok N) (spec_Motion.det N) (consOk_cons (hb6) (impl_Motion.ok N) (impl_Motion.det N) (consOk_cons (hb8) (impl_BufMove.ok N) (impl_BufMove.det N) (consOk_cons (hb7) (laws_lwBuf.ok N) (laws_lwBuf.det N) (consOk_cons (hb9) (laws_lwSame.ok N) (laws_lwSame.det N) consOk_nil))))))
theorem laws_FnMotions.h16 {R : Type} (N : Nat) (d : laws_FnMotions.sk16.D) (kn : laws_FnMotions.sk16.D → Option R) (kx : XD laws_FnMotions.xs16 → Option R) : roundK (laws_FnMotions.cfg N) N (nthLoop (fnBody Try.f3) 0) laws_FnMotions.sk16 laws_FnMotions.xs16 d kn kx = laws_FnMotions.l16 N d kn kx := by kernel_rfl
theorem laws_FnMotions.i16 (N : Nat) : LoopsOk Try.prog (laws_FnMotions.cfg N) (nthLoop (fnBody Try.f3) 0) := loopsL (l := []) (by kernel_rfl) trivial
theorem laws_FnMotions.o16 (N : Nat) : LoopOk Try.prog (nthLoop (fnBody Try.f3) 0) (loopCon N laws_FnMotions.sk16 laws_FnMotions.xs16 (fun {R} => laws_FnMotions.l16 (R := R) N)) := loop_ok (g := laws_FnMotions.cfg N) tys_ok (laws_FnMotions.cons N) mixed (laws_FnMotions.i16 N) (fun d kn kx => laws_FnMotions.h16 N d kn kx)
theorem laws_FnMotions.ls (N : Nat) : LoopsOk Try.prog (laws_FnMotions.cfg N) (fnBody Try.f3) := loopsL (l := [nthLoop (fnBody Try.f3) 0]) (by kernel_rfl) ⟨loopOne (L0 := loopCon N laws_FnMotions.sk16 laws_FnMotions.xs16 (fun {R} => laws_FnMotions.l16 (R := R) N)) (id := 16) (by kernel_rfl) (by kernel_rfl) (laws_FnMotions.o16 N), trivial⟩
theorem laws_FnMotions.q16 {R R' : Type} {N n : Nat} {d} {k} {g : R → Option R'} : bindF (loopP (laws_FnMotions.l16 N) n d k) g = loopP (laws_FnMotions.l16 N) n d fun e => bindF (k e) g := bindF_loopP (fun d kn kx => by simp only [laws_FnMotions.l16, bindF_ifB, bindF_bindO, bindF_pure, bindF_none, bindF_onSum]) n d k
theorem laws_FnMotions.b (N : Nat) (x0 : den (.sl 5 (.int .u8))) : body (laws_FnMotions.cfg N) N Try.f3 [.one] [.v] [(false, .imm)] [⟨(.sl 5 (.int .u8)), .imm, x0⟩] (fun r i => some (r, i)) = bindO (laws_FnMotions N x0) fun r => some ([⟨.bool, .imm, r⟩], []) := by
  show _ = bindF _ _
  conv => rhs; simp only [laws_FnMotions, bindF_ifB, bindF_bindO, bindF_pure, bindF_none, bindF_onSum, laws_FnMotions.q16]
  kernel_rfl
theorem laws_FnMotions.ok (N : Nat) : ConOk Try.prog 3 [.one] (laws_FnMotions.con N) := by
  refine conOk_mk (g := laws_FnMotions.cfg N) (N := N) (res := [(false, .imm)]) tys_ok (laws_FnMotions.cons N) mixed Try.func3 (laws_FnMotions.ls N) rfl rfl ?_
  intro ds R k y h
  cases ds with
  | nil => exact none_some h
  | cons d0 ds =>
  cases ds with
  | cons _ _ => exact none_some h
  | nil =>
  have h0 : (castDm (.sl 5 (.int .u8)) .imm d0 fun x0 => bindO (laws_FnMotions N x0) fun r => k [⟨.bool, .imm, r⟩] []) = some y := h
  clear h
  obtain ⟨x0, rfl, h1⟩ := castDm_eq h0
  exact con_fin (laws_FnMotions.b N x0) h1
theorem laws_FnMotions.det (N : Nat) : ConDet (laws_FnMotions.con N) := by
  intro ds R k y h
  cases ds with
  | nil => exact none_some h
  | cons d0 ds =>
  cases ds with
  | cons _ _ => exact none_some h
  | nil =>
  have h0 : (castDm (.sl 5 (.int .u8)) .imm d0 fun x0 => bindO (laws_FnMotions N x0) fun r => k [⟨.bool, .imm, r⟩] []) = some y := h
  clear h
  obtain ⟨x0, rfl, h1⟩ := castDm_eq h0
  obtain ⟨r, e, h⟩ := bindO_some h1
  refine ⟨_, _, h, fun k' => ?_⟩
  show (castDm (.sl 5 (.int .u8)) .imm (⟨(.sl 5 (.int .u8)), .imm, x0⟩ : Dy) fun x0 => bindO (laws_FnMotions N x0) fun r => k' [⟨.bool, .imm, r⟩] []) = _
  simp only [castDm_self]
  rw [e]
  rfl
end Go.AE.F
