/- The printed functions are what the program comes to: contracts. -/
import Derived.Test.YtkpnnbjahdhnjaaXCompPutL4
namespace Go.AE.F
open Go.AE Go.Proofs
set_option maxRecDepth 100000
noncomputable def laws_markBuf.con (N : Nat) : Con := { modes := [.iov, .v], ptrs := [false], fn := fun ds k => match ds with | [d0, d1] => castDm (.pair (.sl 2 (.int .i64)) (.pair (.int .i64) (.pair (.int .i64) .unit))) (.pr (.own .imm) .imm) d0 fun x0 => castDm (.int .i64) .imm d1 fun x1 => bindO (laws_markBuf N x0 x1) fun r => k [⟨(.int .i64), .imm, r.1⟩] [⟨(.pair (.sl 2 (.int .i64)) (.pair (.int .i64) (.pair (.int .i64) .unit))), (.pr (.own .imm) .imm), r.2⟩] | _ => none }
noncomputable def laws_markBuf.cfg (N : Nat) : Cfg := { ty := tys, keep := [8], flt := [], elm := [(22, (.own .imm)), (23, (.pr (.own .imm) .imm)), (24, (.pr (.own .imm) .imm)), (25, (.own (.own .imm))), (28, (.pr (.own .imm) .imm)), (29, (.pr (.pr (.own .imm) .imm) (.pr (.own .imm) .imm))), (30, (.pr (.pr (.own .imm) .imm) (.pr (.own .imm) .imm)))], live := [], ord := [], con := [((35, [.one, .one]), laws_markInt64S.con N)], loops := [], joins := [] }
theorem laws_markBuf.cons (N : Nat) : ConsOk Try.prog (laws_markBuf.cfg N).con := (consOk_cons (hb35) (laws_markInt64S.ok N) (laws_markInt64S.det N) consOk_nil)
theorem laws_markBuf.ls (N : Nat) : LoopsOk Try.prog (laws_markBuf.cfg N) (fnBody Try.f13) := loopsL (l := []) (by kernel_rfl) trivial
theorem laws_markBuf.b (N : Nat) (x0 : den (.pair (.sl 2 (.int .i64)) (.pair (.int .i64) (.pair (.int .i64) .unit)))) (x1 : den (.int .i64)) : body (laws_markBuf.cfg N) N Try.f13 [.one, .one] [.iov, .v] [(false, .imm)] [⟨(.pair (.sl 2 (.int .i64)) (.pair (.int .i64) (.pair (.int .i64) .unit))), (.pr (.own .imm) .imm), x0⟩, ⟨(.int .i64), .imm, x1⟩] (fun r i => some (r, i)) = bindO (laws_markBuf N x0 x1) fun r => some ([⟨(.int .i64), .imm, r.1⟩], [⟨(.pair (.sl 2 (.int .i64)) (.pair (.int .i64) (.pair (.int .i64) .unit))), (.pr (.own .imm) .imm), r.2⟩]) := by
  show _ = bindF _ _
  conv => rhs; simp only [laws_markBuf, bindF_ifB, bindF_bindO, bindF_pure, bindF_none, bindF_onSum]
  kernel_rfl
theorem laws_markBuf.ok (N : Nat) : ConOk Try.prog 13 [.one, .one] (laws_markBuf.con N) := by
  refine conOk_mk (g := laws_markBuf.cfg N) (N := N) (res := [(false, .imm)]) tys_ok (laws_markBuf.cons N) mixed Try.func13 (laws_markBuf.ls N) rfl rfl ?_
  intro ds R k y h
  cases ds with
  | nil => exact none_some h
  | cons d0 ds =>
  cases ds with
  | nil => exact none_some h
  | cons d1 ds =>
  cases ds with
  | cons _ _ => exact none_some h
  | nil =>
  have h0 : (castDm (.pair (.sl 2 (.int .i64)) (.pair (.int .i64) (.pair (.int .i64) .unit))) (.pr (.own .imm) .imm) d0 fun x0 => castDm (.int .i64) .imm d1 fun x1 => bindO (laws_markBuf N x0 x1) fun r => k [⟨(.int .i64), .imm, r.1⟩] [⟨(.pair (.sl 2 (.int .i64)) (.pair (.int .i64) (.pair (.int .i64) .unit))), (.pr (.own .imm) .imm), r.2⟩]) = some y := h
  clear h
  obtain ⟨x0, rfl, h1⟩ := castDm_eq h0
  obtain ⟨x1, rfl, h2⟩ := castDm_eq h1
  exact con_fin (laws_markBuf.b N x0 x1) h2
theorem laws_markBuf.det (N : Nat) : ConDet (laws_markBuf.con N) := by
  intro ds R k y h
  cases ds with
  | nil => exact none_some h
  | cons d0 ds =>
  cases ds with
  | nil => exact none_some h
  | cons d1 ds =>
  cases ds with
  | cons _ _ => exact none_some h
  | nil =>
  have h0 : (castDm (.pair (.sl 2 (.int .i64)) (.pair (.int .i64) (.pair (.int .i64) .unit))) (.pr (.own .imm) .imm) d0 fun x0 => castDm (.int .i64) .imm d1 fun x1 => bindO (laws_markBuf N x0 x1) fun r => k [⟨(.int .i64), .imm, r.1⟩] [⟨(.pair (.sl 2 (.int .i64)) (.pair (.int .i64) (.pair (.int .i64) .unit))), (.pr (.own .imm) .imm), r.2⟩]) = some y := h
  clear h
  obtain ⟨x0, rfl, h1⟩ := castDm_eq h0
  obtain ⟨x1, rfl, h2⟩ := castDm_eq h1
  obtain ⟨r, e, h⟩ := bindO_some h2
  refine ⟨_, _, h, fun k' => ?_⟩
  show (castDm (.pair (.sl 2 (.int .i64)) (.pair (.int .i64) (.pair (.int .i64) .unit))) (.pr (.own .imm) .imm) (⟨(.pair (.sl 2 (.int .i64)) (.pair (.int .i64) (.pair (.int .i64) .unit))), (.pr (.own .imm) .imm), x0⟩ : Dy) fun x0 => castDm (.int .i64) .imm (⟨(.int .i64), .imm, x1⟩ : Dy) fun x1 => bindO (laws_markBuf N x0 x1) fun r => k' [⟨(.int .i64), .imm, r.1⟩] [⟨(.pair (.sl 2 (.int .i64)) (.pair (.int .i64) (.pair (.int .i64) .unit))), (.pr (.own .imm) .imm), r.2⟩]) = _
  simp only [castDm_self]
  rw [e]
  rfl
def laws_markInt64SS.sk2 : Skel := ⟨[.ov 0 [], .pv (.int .i64), .dead, .dead, .dead, .pv (.int .i64), .dead, .dead, .dead, .dead, .dead, .dead, .dead, .dead, .dead, .dead, .dead, .dead, .dead], [⟨0, (.sl 22 (.sl 2 (.int .i64))), (.own (.own .imm)), false, true⟩]⟩
def laws_markInt64SS.xs2 : List XS := [⟨.exit 0, [1], ⟨[.dead, .pv (.int .i64), .dead, .dead, .dead, .dead, .dead, .dead, .dead, .dead, .dead, .dead, .dead, .dead, .dead, .dead, .dead, .dead, .dead], [⟨0, (.sl 22 (.sl 2 (.int .i64))), (.own (.own .imm)), false, true⟩]⟩⟩]
noncomputable def laws_markInt64SS.con (N : Nat) : Con := { modes := [.iov, .v], ptrs := [false], fn := fun ds k => match ds with | [d0, d1] => castDm (.sl 22 (.sl 2 (.int .i64))) (.own (.own .imm)) d0 fun x0 => castDm (.int .i64) .imm d1 fun x1 => bindO (laws_markInt64SS N x0 x1) fun r => k [⟨(.int .i64), .imm, r.1⟩] [⟨(.sl 22 (.sl 2 (.int .i64))), (.own (.own .imm)), r.2⟩] | _ => none }
noncomputable def laws_markInt64SS.cfg (N : Nat) : Cfg := { ty := tys, keep := [17], flt := [], elm := [(22, (.own .imm)), (23, (.pr (.own .imm) .imm)), (24, (.pr (.own .imm) .imm)), (25, (.own (.own .imm))), (28, (.pr (.own .imm) .imm)), (29, (.pr (.pr (.own .imm) .imm) (.pr (.own .imm) .imm))), (30, (.pr (.pr (.own .imm) .imm) (.pr (.own .imm) .imm)))], live := [(2, [0, 1, 5])], ord := [], con := [((35, [.one, .one]), laws_markInt64S.con N)], loops := [(2, loopCon N laws_markInt64SS.sk2 laws_markInt64SS.xs2 (fun {R} => laws_markInt64SS.l2 (R := R) N))], joins := [] }
theorem laws_markInt64SS.cons (N : Nat) : ConsOk Try.prog (laws_markInt64SS.cfg N).con := (consOk_cons (hb35) (laws_markInt64S.ok N) (laws_markInt64S.det N) consOk_nil)
theorem laws_markInt64SS.h2 {R : Type} (N : Nat) (d : laws_markInt64SS.sk2.D) (kn : laws_markInt64SS.sk2.D → Option R) (kx : XD laws_markInt64SS.xs2 → Option R) : roundK (laws_markInt64SS.cfg N) N (nthLoop (fnBody Try.f14) 0) laws_markInt64SS.sk2 laws_markInt64SS.xs2 d kn kx = laws_markInt64SS.l2 N d kn kx := by kernel_rfl
theorem laws_markInt64SS.i2 (N : Nat) : LoopsOk Try.prog (laws_markInt64SS.cfg N) (nthLoop (fnBody Try.f14) 0) := loopsL (l := []) (by kernel_rfl) trivial
theorem laws_markInt64SS.o2 (N : Nat) : LoopOk Try.prog (nthLoop (fnBody Try.f14) 0) (loopCon N laws_markInt64SS.sk2 laws_markInt64SS.xs2 (fun {R} => laws_markInt64SS.l2 (R := R) N)) := loop_ok (g := laws_markInt64SS.cfg N) tys_ok (laws_markInt64SS.cons N) mixed (laws_markInt64SS.i2 N) (fun d kn kx => laws_markInt64SS.h2 N d kn kx)
theorem laws_markInt64SS.ls (N : Nat) : LoopsOk Try.prog (laws_markInt64SS.cfg N) (fnBody Try.f14) := loopsL (l := [nthLoop (fnBody Try.f14) 0]) (by kernel_rfl) ⟨loopOne (L0 := loopCon N laws_markInt64SS.sk2 laws_markInt64SS.xs2 (fun {R} => laws_markInt64SS.l2 (R := R) N)) (id := 2) (by kernel_rfl) (by kernel_rfl) (laws_markInt64SS.o2 N), trivial⟩
theorem laws_markInt64SS.q2 {R R' : Type} {N n : Nat} {d} {k} {g : R → Option R'} : bindF (loopP (laws_markInt64SS.l2 N) n d k) g = loopP (laws_markInt64SS.l2 N) n d fun e => bindF (k e) g := bindF_loopP (fun d kn kx => by simp only [laws_markInt64SS.l2, bindF_ifB, bindF_bindO, bindF_pure, bindF_none, bindF_onSum]) n d k
theorem laws_markInt64SS.b (N : Nat) (x0 : den (.sl 22 (.sl 2 (.int .i64)))) (x1 : den (.int .i64)) : body (laws_markInt64SS.cfg N) N Try.f14 [.one, .one] [.iov, .v] [(false, .imm)] [⟨(.sl 22 (.sl 2 (.int .i64))), (.own (.own .imm)), x0⟩, ⟨(.int .i64), .imm, x1⟩] (fun r i => some (r, i)) = bindO (laws_markInt64SS N x0 x1) fun r => some ([⟨(.int .i64), .imm, r.1⟩], [⟨(.sl 22 (.sl 2 (.int .i64))), (.own (.own .imm)), r.2⟩]) := by
  show _ = bindF _ _
  conv => rhs; simp only [laws_markInt64SS, bindF_ifB, bindF_bindO, bindF_pure, bindF_none, bindF_onSum, laws_markInt64SS.q2]
  kernel_rfl
theorem laws_markInt64SS.ok (N : Nat) : ConOk Try.prog 14 [.one, .one] (laws_markInt64SS.con N) := by
  refine conOk_mk (g := laws_markInt64SS.cfg N) (N := N) (res := [(false, .imm)]) tys_ok (laws_markInt64SS.cons N) mixed Try.func14 (laws_markInt64SS.ls N) rfl rfl ?_
  intro ds R k y h
  cases ds with
  | nil => exact none_some h
  | cons d0 ds =>
  cases ds with
  | nil => exact none_some h
  | cons d1 ds =>
  cases ds with
  | cons _ _ => exact none_some h
  | nil =>
  have h0 : (castDm (.sl 22 (.sl 2 (.int .i64))) (.own (.own .imm)) d0 fun x0 => castDm (.int .i64) .imm d1 fun x1 => bindO (laws_markInt64SS N x0 x1) fun r => k [⟨(.int .i64), .imm, r.1⟩] [⟨(.sl 22 (.sl 2 (.int .i64))), (.own (.own .imm)), r.2⟩]) = some y := h
  clear h
  obtain ⟨x0, rfl, h1⟩ := castDm_eq h0
  obtain ⟨x1, rfl, h2⟩ := castDm_eq h1
  exact con_fin (laws_markInt64SS.b N x0 x1) h2
theorem laws_markInt64SS.det (N : Nat) : ConDet (laws_markInt64SS.con N) := by
  intro ds R k y h
  cases ds with
  | nil => exact none_some h
  | cons d0 ds =>
  cases ds with
  | nil => exact none_some h
  | cons d1 ds =>
  cases ds with
  | cons _ _ => exact none_some h
  | nil =>
  have h0 : (castDm (.sl 22 (.sl 2 (.int .i64))) (.own (.own .imm)) d0 fun x0 => castDm (.int .i64) .imm d1 fun x1 => bindO (laws_markInt64SS N x0 x1) fun r => k [⟨(.int .i64), .imm, r.1⟩] [⟨(.sl 22 (.sl 2 (.int .i64))), (.own (.own .imm)), r.2⟩]) = some y := h
  clear h
  obtain ⟨x0, rfl, h1⟩ := castDm_eq h0
  obtain ⟨x1, rfl, h2⟩ := castDm_eq h1
  obtain ⟨r, e, h⟩ := bindO_some h2
  refine ⟨_, _, h, fun k' => ?_⟩
  show (castDm (.sl 22 (.sl 2 (.int .i64))) (.own (.own .imm)) (⟨(.sl 22 (.sl 2 (.int .i64))), (.own (.own .imm)), x0⟩ : Dy) fun x0 => castDm (.int .i64) .imm (⟨(.int .i64), .imm, x1⟩ : Dy) fun x1 => bindO (laws_markInt64SS N x0 x1) fun r => k' [⟨(.int .i64), .imm, r.1⟩] [⟨(.sl 22 (.sl 2 (.int .i64))), (.own (.own .imm)), r.2⟩]) = _
  simp only [castDm_self]
  rw [e]
  rfl
noncomputable def laws_markBufOut.con (N : Nat) : Con := { modes := [.iov, .v], ptrs := [false], fn := fun ds k => match ds with | [d0, d1] => castDm (.pair (.pair (.sl 2 (.int .i64)) (.pair (.int .i64) (.pair (.int .i64) .unit))) (.pair (.sl 2 (.int .i64)) (.pair (.int .i64) .unit))) (.pr (.pr (.own .imm) .imm) (.pr (.own .imm) .imm)) d0 fun x0 => castDm (.int .i64) .imm d1 fun x1 => bindO (laws_markBufOut N x0 x1) fun r => k [⟨(.int .i64), .imm, r.1⟩] [⟨(.pair (.pair (.sl 2 (.int .i64)) (.pair (.int .i64) (.pair (.int .i64) .unit))) (.pair (.sl 2 (.int .i64)) (.pair (.int .i64) .unit))), (.pr (.pr (.own .imm) .imm) (.pr (.own .imm) .imm)), r.2⟩] | _ => none }
noncomputable def laws_markBufOut.cfg (N : Nat) : Cfg := { ty := tys, keep := [8, 12], flt := [], elm := [(22, (.own .imm)), (23, (.pr (.own .imm) .imm)), (24, (.pr (.own .imm) .imm)), (25, (.own (.own .imm))), (28, (.pr (.own .imm) .imm)), (29, (.pr (.pr (.own .imm) .imm) (.pr (.own .imm) .imm))), (30, (.pr (.pr (.own .imm) .imm) (.pr (.own .imm) .imm)))], live := [], ord := [], con := [((13, [.one, .one]), laws_markBuf.con N), ((35, [.one, .one]), laws_markInt64S.con N)], loops := [], joins := [] }
theorem laws_markBufOut.cons (N : Nat) : ConsOk Try.prog (laws_markBufOut.cfg N).con := (consOk_cons (hb13) (laws_markBuf.ok N) (laws_markBuf.det N) (consOk_cons (hb35) (laws_markInt64S.ok N) (laws_markInt64S.det N) consOk_nil))
theorem laws_markBufOut.ls (N : Nat) : LoopsOk Try.prog (laws_markBufOut.cfg N) (fnBody Try.f15) := loopsL (l := []) (by kernel_rfl) trivial
theorem laws_markBufOut.b (N : Nat) (x0 : den (.pair (.pair (.sl 2 (.int .i64)) (.pair (.int .i64) (.pair (.int .i64) .unit))) (.pair (.sl 2 (.int .i64)) (.pair (.int .i64) .unit)))) (x1 : den (.int .i64)) : body (laws_markBufOut.cfg N) N Try.f15 [.one, .one] [.iov, .v] [(false, .imm)] [⟨(.pair (.pair (.sl 2 (.int .i64)) (.pair (.int .i64) (.pair (.int .i64) .unit))) (.pair (.sl 2 (.int .i64)) (.pair (.int .i64) .unit))), (.pr (.pr (.own .imm) .imm) (.pr (.own .imm) .imm)), x0⟩, ⟨(.int .i64), .imm, x1⟩] (fun r i => some (r, i)) = bindO (laws_markBufOut N x0 x1) fun r => some ([⟨(.int .i64), .imm, r.1⟩], [⟨(.pair (.pair (.sl 2 (.int .i64)) (.pair (.int .i64) (.pair (.int .i64) .unit))) (.pair (.sl 2 (.int .i64)) (.pair (.int .i64) .unit))), (.pr (.pr (.own .imm) .imm) (.pr (.own .imm) .imm)), r.2⟩]) := by
  show _ = bindF _ _
  conv => rhs; simp only [laws_markBufOut, bindF_ifB, bindF_bindO, bindF_pure, bindF_none, bindF_onSum]
  kernel_rfl
theorem laws_markBufOut.ok (N : Nat) : ConOk Try.prog 15 [.one, .one] (laws_markBufOut.con N) := by
  refine conOk_mk (g := laws_markBufOut.cfg N) (N := N) (res := [(false, .imm)]) tys_ok (laws_markBufOut.cons N) mixed Try.func15 (laws_markBufOut.ls N) rfl rfl ?_
  intro ds R k y h
  cases ds with
  | nil => exact none_some h
  | cons d0 ds =>
  cases ds with
  | nil => exact none_some h
  | cons d1 ds =>
  cases ds with
  | cons _ _ => exact none_some h
  | nil =>
  have h0 : (castDm (.pair (.pair (.sl 2 (.int .i64)) (.pair (.int .i64) (.pair (.int .i64) .unit))) (.pair (.sl 2 (.int .i64)) (.pair (.int .i64) .unit))) (.pr (.pr (.own .imm) .imm) (.pr (.own .imm) .imm)) d0 fun x0 => castDm (.int .i64) .imm d1 fun x1 => bindO (laws_markBufOut N x0 x1) fun r => k [⟨(.int .i64), .imm, r.1⟩] [⟨(.pair (.pair (.sl 2 (.int .i64)) (.pair (.int .i64) (.pair (.int .i64) .unit))) (.pair (.sl 2 (.int .i64)) (.pair (.int .i64) .unit))), (.pr (.pr (.own .imm) .imm) (.pr (.own .imm) .imm)), r.2⟩]) = some y := h
  clear h
  obtain ⟨x0, rfl, h1⟩ := castDm_eq h0
  obtain ⟨x1, rfl, h2⟩ := castDm_eq h1
  exact con_fin (laws_markBufOut.b N x0 x1) h2
theorem laws_markBufOut.det (N : Nat) : ConDet (laws_markBufOut.con N) := by
  intro ds R k y h
  cases ds with
  | nil => exact none_some h
  | cons d0 ds =>
  cases ds with
  | nil => exact none_some h
  | cons d1 ds =>
  cases ds with
  | cons _ _ => exact none_some h
  | nil =>
  have h0 : (castDm (.pair (.pair (.sl 2 (.int .i64)) (.pair (.int .i64) (.pair (.int .i64) .unit))) (.pair (.sl 2 (.int .i64)) (.pair (.int .i64) .unit))) (.pr (.pr (.own .imm) .imm) (.pr (.own .imm) .imm)) d0 fun x0 => castDm (.int .i64) .imm d1 fun x1 => bindO (laws_markBufOut N x0 x1) fun r => k [⟨(.int .i64), .imm, r.1⟩] [⟨(.pair (.pair (.sl 2 (.int .i64)) (.pair (.int .i64) (.pair (.int .i64) .unit))) (.pair (.sl 2 (.int .i64)) (.pair (.int .i64) .unit))), (.pr (.pr (.own .imm) .imm) (.pr (.own .imm) .imm)), r.2⟩]) = some y := h
  clear h
  obtain ⟨x0, rfl, h1⟩ := castDm_eq h0
  obtain ⟨x1, rfl, h2⟩ := castDm_eq h1
  obtain ⟨r, e, h⟩ := bindO_some h2
  refine ⟨_, _, h, fun k' => ?_⟩
  show (castDm (.pair (.pair (.sl 2 (.int .i64)) (.pair (.int .i64) (.pair (.int .i64) .unit))) (.pair (.sl 2 (.int .i64)) (.pair (.int .i64) .unit))) (.pr (.pr (.own .imm) .imm) (.pr (.own .imm) .imm)) (⟨(.pair (.pair (.sl 2 (.int .i64)) (.pair (.int .i64) (.pair (.int .i64) .unit))) (.pair (.sl 2 (.int .i64)) (.pair (.int .i64) .unit))), (.pr (.pr (.own .imm) .imm) (.pr (.own .imm) .imm)), x0⟩ : Dy) fun x0 => castDm (.int .i64) .imm (⟨(.int .i64), .imm, x1⟩ : Dy) fun x1 => bindO (laws_markBufOut N x0 x1) fun r => k' [⟨(.int .i64), .imm, r.1⟩] [⟨(.pair (.pair (.sl 2 (.int .i64)) (.pair (.int .i64) (.pair (.int .i64) .unit))) (.pair (.sl 2 (.int .i64)) (.pair (.int .i64) .unit))), (.pr (.pr (.own .imm) .imm) (.pr (.own .imm) .imm)), r.2⟩]) = _
  simp only [castDm_self]
  rw [e]
  rfl
def laws_heldInt64S.sk2 : Skel := ⟨[.pv (.sl 2 (.int .i64)), .pv (.int .i64), .dead, .dead, .dead, .pv (.int .i64), .dead, .dead, .dead, .dead, .dead, .dead, .dead, .dead, .dead, .dead, .dead, .dead, .dead, .dead, .dead], []⟩
def laws_heldInt64S.xs2 : List XS := [⟨.exit 0, [1], ⟨[.dead, .pv (.int .i64), .dead, .dead, .dead, .dead, .dead, .dead, .dead, .dead, .dead, .dead, .dead, .dead, .dead, .dead, .dead, .dead, .dead, .dead, .dead], []⟩⟩, ⟨.ret, [4], ⟨[.dead, .dead, .dead, .dead, .pv (.int .i64), .dead, .dead, .dead, .dead, .dead, .dead, .dead, .dead, .dead, .dead, .dead, .dead, .dead, .dead, .dead, .dead], []⟩⟩]
noncomputable def laws_heldInt64S.con (N : Nat) : Con := { modes := [.v, .v], ptrs := [false], fn := fun ds k => match ds with | [d0, d1] => castDm (.sl 2 (.int .i64)) .imm d0 fun x0 => castDm (.int .i64) .imm d1 fun x1 => bindO (laws_heldInt64S N x0 x1) fun r => k [⟨(.int .i64), .imm, r⟩] [] | _ => none }
noncomputable def laws_heldInt64S.cfg (N : Nat) : Cfg := { ty := tys, keep := [], flt := [], elm := [(22, (.own .imm)), (23, (.pr (.own .imm) .imm)), (24, (.pr (.own .imm) .imm)), (25, (.own (.own .imm))), (28, (.pr (.own .imm) .imm)), (29, (.pr (.pr (.own .imm) .imm) (.pr (.own .imm) .imm))), (30, (.pr (.pr (.own .imm) .imm) (.pr (.own .imm) .imm)))], live := [(2, [0, 1, 5])], ord := [], con := [], loops := [(2, loopCon N laws_heldInt64S.sk2 laws_heldInt64S.xs2 (fun {R} => laws_heldInt64S.l2 (R := R) N))], joins := [] }
theorem laws_heldInt64S.cons (N : Nat) : ConsOk Try.prog (laws_heldInt64S.cfg N).con := consOk_nil
theorem laws_heldInt64S.h2 {R : Type} (N : Nat) (d : laws_heldInt64S.sk2.D) (kn : laws_heldInt64S.sk2.D → Option R) (kx : XD laws_heldInt64S.xs2 → Option R) : roundK (laws_heldInt64S.cfg N) N (nthLoop (fnBody Try.f37) 0) laws_heldInt64S.sk2 laws_heldInt64S.xs2 d kn kx = laws_heldInt64S.l2 N d kn kx := by kernel_rfl
theorem laws_heldInt64S.i2 (N : Nat) : LoopsOk Try.prog (laws_heldInt64S.cfg N) (nthLoop (fnBody Try.f37) 0) := loopsL (l := []) (by kernel_rfl) trivial
theorem laws_heldInt64S.o2 (N : Nat) : LoopOk Try.prog (nthLoop (fnBody Try.f37) 0) (loopCon N laws_heldInt64S.sk2 laws_heldInt64S.xs2 (fun {R} => laws_heldInt64S.l2 (R := R) N)) := loop_ok (g := laws_heldInt64S.cfg N) tys_ok (laws_heldInt64S.cons N) mixed (laws_heldInt64S.i2 N) (fun d kn kx => laws_heldInt64S.h2 N d kn kx)
theorem laws_heldInt64S.ls (N : Nat) : LoopsOk Try.prog (laws_heldInt64S.cfg N) (fnBody Try.f37) := loopsL (l := [nthLoop (fnBody Try.f37) 0]) (by kernel_rfl) ⟨loopOne (L0 := loopCon N laws_heldInt64S.sk2 laws_heldInt64S.xs2 (fun {R} => laws_heldInt64S.l2 (R := R) N)) (id := 2) (by kernel_rfl) (by kernel_rfl) (laws_heldInt64S.o2 N), trivial⟩
theorem laws_heldInt64S.q2 {R R' : Type} {N n : Nat} {d} {k} {g : R → Option R'} : bindF (loopP (laws_heldInt64S.l2 N) n d k) g = loopP (laws_heldInt64S.l2 N) n d fun e => bindF (k e) g := bindF_loopP (fun d kn kx => by simp only [laws_heldInt64S.l2, bindF_ifB, bindF_bindO, bindF_pure, bindF_none, bindF_onSum]) n d k
theorem laws_heldInt64S.b (N : Nat) (x0 : den (.sl 2 (.int .i64))) (x1 : den (.int .i64)) : body (laws_heldInt64S.cfg N) N Try.f37 [.one, .one] [.v, .v] [(false, .imm)] [⟨(.sl 2 (.int .i64)), .imm, x0⟩, ⟨(.int .i64), .imm, x1⟩] (fun r i => some (r, i)) = bindO (laws_heldInt64S N x0 x1) fun r => some ([⟨(.int .i64), .imm, r⟩], []) := by
  show _ = bindF _ _
  conv => rhs; simp only [laws_heldInt64S, bindF_ifB, bindF_bindO, bindF_pure, bindF_none, bindF_onSum, laws_heldInt64S.q2]
  kernel_rfl
theorem laws_heldInt64S.ok (N : Nat) : ConOk Try.prog 37 [.one, .one] (laws_heldInt64S.con N) := by
  refine conOk_mk (g := laws_heldInt64S.cfg N) (N := N) (res := [(false, .imm)]) tys_ok (laws_heldInt64S.cons N) mixed Try.func37 (laws_heldInt64S.ls N) rfl rfl ?_
  intro ds R k y h
  cases ds with
  | nil => exact none_some h
  | cons d0 ds =>
  cases ds with
  | nil => exact none_some h
  | cons d1 ds =>
  cases ds with
  | cons _ _ => exact none_some h
  | nil =>
  have h0 : (castDm (.sl 2 (.int .i64)) .imm d0 fun x0 => castDm (.int .i64) .imm d1 fun x1 => bindO (laws_heldInt64S N x0 x1) fun r => k [⟨(.int .i64), .imm, r⟩] []) = some y := h
  clear h
  obtain ⟨x0, rfl, h1⟩ := castDm_eq h0
  obtain ⟨x1, rfl, h2⟩ := castDm_eq h1
  exact con_fin (laws_heldInt64S.b N x0 x1) h2
theorem laws_heldInt64S.det (N : Nat) : ConDet (laws_heldInt64S.con N) := by
  intro ds R k y h
  cases ds with
  | nil => exact none_some h
  | cons d0 ds =>
  cases ds with
  | nil => exact none_some h
  | cons d1 ds =>
  cases ds with
  | cons _ _ => exact none_some h
  | nil =>
  have h0 : (castDm (.sl 2 (.int .i64)) .imm d0 fun x0 => castDm (.int .i64) .imm d1 fun x1 => bindO (laws_heldInt64S N x0 x1) fun r => k [⟨(.int .i64), .imm, r⟩] []) = some y := h
  clear h
  obtain ⟨x0, rfl, h1⟩ := castDm_eq h0
  obtain ⟨x1, rfl, h2⟩ := castDm_eq h1
  obtain ⟨r, e, h⟩ := bindO_some h2
  refine ⟨_, _, h, fun k' => ?_⟩
  show (castDm (.sl 2 (.int .i64)) .imm (⟨(.sl 2 (.int .i64)), .imm, x0⟩ : Dy) fun x0 => castDm (.int .i64) .imm (⟨(.int .i64), .imm, x1⟩ : Dy) fun x1 => bindO (laws_heldInt64S N x0 x1) fun r => k' [⟨(.int .i64), .imm, r⟩] []) = _
  simp only [castDm_self]
  rw [e]
  rfl
noncomputable def laws_heldBuf.con (N : Nat) : Con := { modes := [.v, .v], ptrs := [false], fn := fun ds k => match ds with | [d0, d1] => castDm (.pair (.sl 2 (.int .i64)) (.pair (.int .i64) (.pair (.int .i64) .unit))) .imm d0 fun x0 => castDm (.int .i64) .imm d1 fun x1 => bindO (laws_heldBuf N x0 x1) fun r => k [⟨(.int .i64), .imm, r⟩] [] | _ => none }
noncomputable def laws_heldBuf.cfg (N : Nat) : Cfg := { ty := tys, keep := [8], flt := [], elm := [(22, (.own .imm)), (23, (.pr (.own .imm) .imm)), (24, (.pr (.own .imm) .imm)), (25, (.own (.own .imm))), (28, (.pr (.own .imm) .imm)), (29, (.pr (.pr (.own .imm) .imm) (.pr (.own .imm) .imm))), (30, (.pr (.pr (.own .imm) .imm) (.pr (.own .imm) .imm)))], live := [], ord := [], con := [((37, [.one, .one]), laws_heldInt64S.con N)], loops := [], joins := [] }
theorem laws_heldBuf.cons (N : Nat) : ConsOk Try.prog (laws_heldBuf.cfg N).con := (consOk_cons (hb37) (laws_heldInt64S.ok N) (laws_heldInt64S.det N) consOk_nil)
theorem laws_heldBuf.ls (N : Nat) : LoopsOk Try.prog (laws_heldBuf.cfg N) (fnBody Try.f36) := loopsL (l := []) (by kernel_rfl) trivial
theorem laws_heldBuf.b (N : Nat) (x0 : den (.pair (.sl 2 (.int .i64)) (.pair (.int .i64) (.pair (.int .i64) .unit)))) (x1 : den (.int .i64)) : body (laws_heldBuf.cfg N) N Try.f36 [.one, .one] [.v, .v] [(false, .imm)] [⟨(.pair (.sl 2 (.int .i64)) (.pair (.int .i64) (.pair (.int .i64) .unit))), .imm, x0⟩, ⟨(.int .i64), .imm, x1⟩] (fun r i => some (r, i)) = bindO (laws_heldBuf N x0 x1) fun r => some ([⟨(.int .i64), .imm, r⟩], []) := by
  show _ = bindF _ _
  conv => rhs; simp only [laws_heldBuf, bindF_ifB, bindF_bindO, bindF_pure, bindF_none, bindF_onSum]
  kernel_rfl
theorem laws_heldBuf.ok (N : Nat) : ConOk Try.prog 36 [.one, .one] (laws_heldBuf.con N) := by
  refine conOk_mk (g := laws_heldBuf.cfg N) (N := N) (res := [(false, .imm)]) tys_ok (laws_heldBuf.cons N) mixed Try.func36 (laws_heldBuf.ls N) rfl rfl ?_
  intro ds R k y h
  cases ds with
  | nil => exact none_some h
  | cons d0 ds =>
  cases ds with
  | nil => exact none_some h
  | cons d1 ds =>
  cases ds with
  | cons _ _ => exact none_some h
  | nil =>
  have h0 : (castDm (.pair (.sl 2 (.int .i64)) (.pair (.int .i64) (.pair (.int .i64) .unit))) .imm d0 fun x0 => castDm (.int .i64) .imm d1 fun x1 => bindO (laws_heldBuf N x0 x1) fun r => k [⟨(.int .i64), .imm, r⟩] []) = some y := h
  clear h
  obtain ⟨x0, rfl, h1⟩ := castDm_eq h0
  obtain ⟨x1, rfl, h2⟩ := castDm_eq h1
  exact con_fin (laws_heldBuf.b N x0 x1) h2
theorem laws_heldBuf.det (N : Nat) : ConDet (laws_heldBuf.con N) := by
  intro ds R k y h
  cases ds with
  | nil => exact none_some h
  | cons d0 ds =>
  cases ds with
  | nil => exact none_some h
  | cons d1 ds =>
  cases ds with
  | cons _ _ => exact none_some h
  | nil =>
  have h0 : (castDm (.pair (.sl 2 (.int .i64)) (.pair (.int .i64) (.pair (.int .i64) .unit))) .imm d0 fun x0 => castDm (.int .i64) .imm d1 fun x1 => bindO (laws_heldBuf N x0 x1) fun r => k [⟨(.int .i64), .imm, r⟩] []) = some y := h
  clear h
  obtain ⟨x0, rfl, h1⟩ := castDm_eq h0
  obtain ⟨x1, rfl, h2⟩ := castDm_eq h1
  obtain ⟨r, e, h⟩ := bindO_some h2
  refine ⟨_, _, h, fun k' => ?_⟩
  show (castDm (.pair (.sl 2 (.int .i64)) (.pair (.int .i64) (.pair (.int .i64) .unit))) .imm (⟨(.pair (.sl 2 (.int .i64)) (.pair (.int .i64) (.pair (.int .i64) .unit))), .imm, x0⟩ : Dy) fun x0 => castDm (.int .i64) .imm (⟨(.int .i64), .imm, x1⟩ : Dy) fun x1 => bindO (laws_heldBuf N x0 x1) fun r => k' [⟨(.int .i64), .imm, r⟩] []) = _
  simp only [castDm_self]
  rw [e]
  rfl
noncomputable def laws_heldBufOut.con (N : Nat) : Con := { modes := [.v, .v], ptrs := [false], fn := fun ds k => match ds with | [d0, d1] => castDm (.pair (.pair (.sl 2 (.int .i64)) (.pair (.int .i64) (.pair (.int .i64) .unit))) (.pair (.sl 2 (.int .i64)) (.pair (.int .i64) .unit))) .imm d0 fun x0 => castDm (.int .i64) .imm d1 fun x1 => bindO (laws_heldBufOut N x0 x1) fun r => k [⟨(.int .i64), .imm, r⟩] [] | _ => none }
noncomputable def laws_heldBufOut.cfg (N : Nat) : Cfg := { ty := tys, keep := [8, 14], flt := [], elm := [(22, (.own .imm)), (23, (.pr (.own .imm) .imm)), (24, (.pr (.own .imm) .imm)), (25, (.own (.own .imm))), (28, (.pr (.own .imm) .imm)), (29, (.pr (.pr (.own .imm) .imm) (.pr (.own .imm) .imm))), (30, (.pr (.pr (.own .imm) .imm) (.pr (.own .imm) .imm)))], live := [], ord := [], con := [((36, [.one, .one]), laws_heldBuf.con N), ((37, [.one, .one]), laws_heldInt64S.con N)], loops := [], joins := [] }
theorem laws_heldBufOut.cons (N : Nat) : ConsOk Try.prog (laws_heldBufOut.cfg N).con := (consOk_cons (hb36) (laws_heldBuf.ok N) (laws_heldBuf.det N) (consOk_cons (hb37) (laws_heldInt64S.ok N) (laws_heldInt64S.det N) consOk_nil))
theorem laws_heldBufOut.ls (N : Nat) : LoopsOk Try.prog (laws_heldBufOut.cfg N) (fnBody Try.f16) := loopsL (l := []) (by kernel_rfl) trivial
theorem laws_heldBufOut.b (N : Nat) (x0 : den (.pair (.pair (.sl 2 (.int .i64)) (.pair (.int .i64) (.pair (.int .i64) .unit))) (.pair (.sl 2 (.int .i64)) (.pair (.int .i64) .unit)))) (x1 : den (.int .i64)) : body (laws_heldBufOut.cfg N) N Try.f16 [.one, .one] [.v, .v] [(false, .imm)] [⟨(.pair (.pair (.sl 2 (.int .i64)) (.pair (.int .i64) (.pair (.int .i64) .unit))) (.pair (.sl 2 (.int .i64)) (.pair (.int .i64) .unit))), .imm, x0⟩, ⟨(.int .i64), .imm, x1⟩] (fun r i => some (r, i)) = bindO (laws_heldBufOut N x0 x1) fun r => some ([⟨(.int .i64), .imm, r⟩], []) := by
  show _ = bindF _ _
  conv => rhs; simp only [laws_heldBufOut, bindF_ifB, bindF_bindO, bindF_pure, bindF_none, bindF_onSum]
  kernel_rfl
theorem laws_heldBufOut.ok (N : Nat) : ConOk Try.prog 16 [.one, .one] (laws_heldBufOut.con N) := by
  refine conOk_mk (g := laws_heldBufOut.cfg N) (N := N) (res := [(false, .imm)]) tys_ok (laws_heldBufOut.cons N) mixed Try.func16 (laws_heldBufOut.ls N) rfl rfl ?_
  intro ds R k y h
  cases ds with
  | nil => exact none_some h
  | cons d0 ds =>
  cases ds with
  | nil => exact none_some h
  | cons d1 ds =>
  cases ds with
  | cons _ _ => exact none_some h
  | nil =>
  have h0 : (castDm (.pair (.pair (.sl 2 (.int .i64)) (.pair (.int .i64) (.pair (.int .i64) .unit))) (.pair (.sl 2 (.int .i64)) (.pair (.int .i64) .unit))) .imm d0 fun x0 => castDm (.int .i64) .imm d1 fun x1 => bindO (laws_heldBufOut N x0 x1) fun r => k [⟨(.int .i64), .imm, r⟩] []) = some y := h
  clear h
  obtain ⟨x0, rfl, h1⟩ := castDm_eq h0
  obtain ⟨x1, rfl, h2⟩ := castDm_eq h1
  exact con_fin (laws_heldBufOut.b N x0 x1) h2
theorem laws_heldBufOut.det (N : Nat) : ConDet (laws_heldBufOut.con N) := by
  intro ds R k y h
  cases ds with
  | nil => exact none_some h
  | cons d0 ds =>
  cases ds with
  | nil => exact none_some h
  | cons d1 ds =>
  cases ds with
  | cons _ _ => exact none_some h
  | nil =>
  have h0 : (castDm (.pair (.pair (.sl 2 (.int .i64)) (.pair (.int .i64) (.pair (.int .i64) .unit))) (.pair (.sl 2 (.int .i64)) (.pair (.int .i64) .unit))) .imm d0 fun x0 => castDm (.int .i64) .imm d1 fun x1 => bindO (laws_heldBufOut N x0 x1) fun r => k [⟨(.int .i64), .imm, r⟩] []) = some y := h
  clear h
  obtain ⟨x0, rfl, h1⟩ := castDm_eq h0
  obtain ⟨x1, rfl, h2⟩ := castDm_eq h1
  obtain ⟨r, e, h⟩ := bindO_some h2
  refine ⟨_, _, h, fun k' => ?_⟩
  show (castDm (.pair (.pair (.sl 2 (.int .i64)) (.pair (.int .i64) (.pair (.int .i64) .unit))) (.pair (.sl 2 (.int .i64)) (.pair (.int .i64) .unit))) .imm (⟨(.pair (.pair (.sl 2 (.int .i64)) (.pair (.int .i64) (.pair (.int .i64) .unit))) (.pair (.sl 2 (.int .i64)) (.pair (.int .i64) .unit))), .imm, x0⟩ : Dy) fun x0 => castDm (.int .i64) .imm (⟨(.int .i64), .imm, x1⟩ : Dy) fun x1 => bindO (laws_heldBufOut N x0 x1) fun r => k' [⟨(.int .i64), .imm, r⟩] []) = _
  simp only [castDm_self]
  rw [e]
  rfl
noncomputable def laws_FnExactCompPut.con (N : Nat) : Con := { modes := [.v, .v], ptrs := [false], fn := fun ds k => match ds with | [d0, d1] => castDm (.pair (.sl 2 (.int .i64)) (.pair (.int .i64) (.pair (.int .i64) .unit))) .imm d0 fun x0 => castDm (.sl 22 (.sl 2 (.int .i64))) .imm d1 fun x1 => bindO (laws_FnExactCompPut N x0 x1) fun r => k [⟨.bool, .imm, r⟩] [] | _ => none }
noncomputable def laws_FnExactCompPut.cfg (N : Nat) : Cfg := { ty := tys, keep := [16, 21, 25, 27, 28, 30, 32, 35, 38, 42, 43, 47, 48, 52, 55, 61, 66, 69, 76, 78, 79, 82, 86], flt := [], elm := [(22, (.own .imm)), (23, (.pr (.own .imm) .imm)), (24, (.pr (.own .imm) .imm)), (25, (.own (.own .imm))), (28, (.pr (.own .imm) .imm)), (29, (.pr (.pr (.own .imm) .imm) (.pr (.own .imm) .imm))), (30, (.pr (.pr (.own .imm) .imm) (.pr (.own .imm) .imm)))], live := [], ord := [(14, [0, 1, 2, 3, 4])], con := [((4, [.one, .one]), laws_szBuf.con N), ((5, [.one, .one]), laws_szInt64SS.con N), ((7, [.one]), laws_toBuf.con N), ((8, [.one]), laws_toInt64SS.con N), ((6, [.one, .one]), spec_CompPut.con N), ((9, [.one, .one]), impl_CompPut.con N), ((10, [.one, .one]), laws_eqBufOut.con N), ((11, [.one, .one]), laws_eqBuf.con N), ((12, [.one, .one]), laws_eqInt64SS.con N), ((13, [.one, .one]), laws_markBuf.con N), ((14, [.one, .one]), laws_markInt64SS.con N), ((15, [.one, .one]), laws_markBufOut.con N), ((16, [.one, .one]), laws_heldBufOut.con N)], loops := [], joins := [] }
theorem laws_FnExactCompPut.cons (N : Nat) : ConsOk Try.prog (laws_FnExactCompPut.cfg N).con := (consOk_cons (hb4) (laws_szBuf.ok N) (laws_szBuf.det N) (consOk_cons (hb5) (laws_szInt64SS.ok N) (laws_szInt64SS.det N) (consOk_cons (hb7) (laws_toBuf.ok N) (laws_toBuf.det N) (consOk_cons (hb8) (laws_toInt64SS.ok N) (laws_toInt64SS.det N) (consOk_cons (hb6) (spec_CompPut.ok N) (spec_CompPut.det N) (consOk_cons (hb9) (impl_CompPut.ok N) (impl_CompPut.det N) (consOk_cons (hb10) (laws_eqBufOut.ok N) (laws_eqBufOut.det N) (consOk_cons (hb11) (laws_eqBuf.ok N) (laws_eqBuf.det N) (consOk_cons (hb12) (laws_eqInt64SS.ok N) (laws_eqInt64SS.det N) (consOk_cons (hb13) (laws_markBuf.ok N) (laws_markBuf.det N) (consOk_cons (hb14) (laws_markInt64SS.ok N) (laws_markInt64SS.det N) (consOk_cons (hb15) (laws_markBufOut.ok N) (laws_markBufOut.det N) (consOk_cons (hb16) (laws_heldBufOut.ok N) (laws_heldBufOut.det N) consOk_nil)))))))))))))
theorem laws_FnExactCompPut.ls (N : Nat) : LoopsOk Try.prog (laws_FnExactCompPut.cfg N) (fnBody Try.f3) := loopsL (l := []) (by kernel_rfl) trivial
theorem laws_FnExactCompPut.b (N : Nat) (x0 : den (.pair (.sl 2 (.int .i64)) (.pair (.int .i64) (.pair (.int .i64) .unit)))) (x1 : den (.sl 22 (.sl 2 (.int .i64)))) : body (laws_FnExactCompPut.cfg N) N Try.f3 [.one, .one] [.v, .v] [(false, .imm)] [⟨(.pair (.sl 2 (.int .i64)) (.pair (.int .i64) (.pair (.int .i64) .unit))), .imm, x0⟩, ⟨(.sl 22 (.sl 2 (.int .i64))), .imm, x1⟩] (fun r i => some (r, i)) = bindO (laws_FnExactCompPut N x0 x1) fun r => some ([⟨.bool, .imm, r⟩], []) := by
  show _ = bindF _ _
  conv => rhs; simp only [laws_FnExactCompPut, bindF_ifB, bindF_bindO, bindF_pure, bindF_none, bindF_onSum]
  kernel_rfl
theorem laws_FnExactCompPut.ok (N : Nat) : ConOk Try.prog 3 [.one, .one] (laws_FnExactCompPut.con N) := by
  refine conOk_mk (g := laws_FnExactCompPut.cfg N) (N := N) (res := [(false, .imm)]) tys_ok (laws_FnExactCompPut.cons N) mixed Try.func3 (laws_FnExactCompPut.ls N) rfl rfl ?_
  intro ds R k y h
  cases ds with
  | nil => exact none_some h
  | cons d0 ds =>
  cases ds with
  | nil => exact none_some h
  | cons d1 ds =>
  cases ds with
  | cons _ _ => exact none_some h
  | nil =>
  have h0 : (castDm (.pair (.sl 2 (.int .i64)) (.pair (.int .i64) (.pair (.int .i64) .unit))) .imm d0 fun x0 => castDm (.sl 22 (.sl 2 (.int .i64))) .imm d1 fun x1 => bindO (laws_FnExactCompPut N x0 x1) fun r => k [⟨.bool, .imm, r⟩] []) = some y := h
  clear h
  obtain ⟨x0, rfl, h1⟩ := castDm_eq h0
  obtain ⟨x1, rfl, h2⟩ := castDm_eq h1
  exact con_fin (laws_FnExactCompPut.b N x0 x1) h2
theorem laws_FnExactCompPut.det (N : Nat) : ConDet (laws_FnExactCompPut.con N) := by
  intro ds R k y h
  cases ds with
  | nil => exact none_some h
  | cons d0 ds =>
  cases ds with
  | nil => exact none_some h
  | cons d1 ds =>
  cases ds with
  | cons _ _ => exact none_some h
  | nil =>
  have h0 : (castDm (.pair (.sl 2 (.int .i64)) (.pair (.int .i64) (.pair (.int .i64) .unit))) .imm d0 fun x0 => castDm (.sl 22 (.sl 2 (.int .i64))) .imm d1 fun x1 => bindO (laws_FnExactCompPut N x0 x1) fun r => k [⟨.bool, .imm, r⟩] []) = some y := h
  clear h
  obtain ⟨x0, rfl, h1⟩ := castDm_eq h0
  obtain ⟨x1, rfl, h2⟩ := castDm_eq h1
  obtain ⟨r, e, h⟩ := bindO_some h2
  refine ⟨_, _, h, fun k' => ?_⟩
  show (castDm (.pair (.sl 2 (.int .i64)) (.pair (.int .i64) (.pair (.int .i64) .unit))) .imm (⟨(.pair (.sl 2 (.int .i64)) (.pair (.int .i64) (.pair (.int .i64) .unit))), .imm, x0⟩ : Dy) fun x0 => castDm (.sl 22 (.sl 2 (.int .i64))) .imm (⟨(.sl 22 (.sl 2 (.int .i64))), .imm, x1⟩ : Dy) fun x1 => bindO (laws_FnExactCompPut N x0 x1) fun r => k' [⟨.bool, .imm, r⟩] []) = _
  simp only [castDm_self]
  rw [e]
  rfl
end Go.AE.F
