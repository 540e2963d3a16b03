/- The printed functions are what the program comes to: contracts. -/
import Derived.Test.YtfddioheppeddaaLUndoAllL0
namespace Go.AE.F
open Go.AE Go.Proofs
set_option maxRecDepth 100000
def spec_l05Bufs.sk4 : Skel := ⟨[.pv (.sl 25 (.pair (.sl 2 (.int .i64)) (.pair (.int .i64) (.pair (.int .i64) .unit)))), .dead, .dead, .pv (.int .i64), .dead, .dead, .dead, .dead, .dead, .dead, .dead, .dead, .dead, .dead, .dead, .dead, .dead, .dead, .dead], []⟩
def spec_l05Bufs.xs4 : List XS := [⟨.exit 0, [], ⟨[.dead, .dead, .dead, .dead, .dead, .dead, .dead, .dead, .dead, .dead, .dead, .dead, .dead, .dead, .dead, .dead, .dead, .dead, .dead], []⟩⟩, ⟨.ret, [2], ⟨[.dead, .dead, .pv .bool, .dead, .dead, .dead, .dead, .dead, .dead, .dead, .dead, .dead, .dead, .dead, .dead, .dead, .dead, .dead, .dead], []⟩⟩]
noncomputable def spec_l05Bufs.con (N : Nat) : Con := { modes := [.v], ptrs := [false], fn := fun ds k => match ds with | [d0] => castDm (.sl 25 (.pair (.sl 2 (.int .i64)) (.pair (.int .i64) (.pair (.int .i64) .unit)))) .imm d0 fun x0 => bindO (spec_l05Bufs N x0) fun r => k [⟨.bool, .imm, r⟩] [] | _ => none }
noncomputable def spec_l05Bufs.cfg (N : Nat) : Cfg := { ty := tys, keep := [17], flt := [], elm := [(22, (.own .imm)), (23, (.own .imm)), (24, (.pr (.own .imm) .imm)), (25, (.pr (.own .imm) .imm)), (26, (.own (.own .imm))), (29, (.own (.pr (.own .imm) .imm))), (30, (.pr (.own (.pr (.own .imm) .imm)) (.pr (.own (.pr (.own .imm) .imm)) .imm))), (31, (.pr (.own (.pr (.own .imm) .imm)) (.pr (.own (.pr (.own .imm) .imm)) .imm))), (32, (.pr (.pr (.own (.pr (.own .imm) .imm)) (.pr (.own (.pr (.own .imm) .imm)) .imm)) (.pr (.pr (.own .imm) .imm) .imm))), (33, (.pr (.pr (.own (.pr (.own .imm) .imm)) (.pr (.own (.pr (.own .imm) .imm)) .imm)) (.pr (.pr (.own .imm) .imm) .imm))), (44, (.pr (.own .imm) .imm)), (45, (.pr (.own .imm) .imm)), (52, (.pr (.pr (.own .imm) .imm) (.pr (.own .imm) .imm))), (53, (.pr (.pr (.own .imm) .imm) (.pr (.own .imm) .imm)))], live := [(4, [0, 3])], ord := [], con := [((15, [.one]), spec_BufRight.con N)], loops := [(4, loopCon N spec_l05Bufs.sk4 spec_l05Bufs.xs4 (fun {R} => spec_l05Bufs.l4 (R := R) N))], joins := [] }
theorem spec_l05Bufs.cons (N : Nat) : ConsOk Try.prog (spec_l05Bufs.cfg N).con := (consOk_cons (hb15) (spec_BufRight.ok N) (spec_BufRight.det N) consOk_nil)
theorem spec_l05Bufs.h4 {R : Type} (N : Nat) (d : spec_l05Bufs.sk4.D) (kn : spec_l05Bufs.sk4.D → Option R) (kx : XD spec_l05Bufs.xs4 → Option R) : roundK (spec_l05Bufs.cfg N) N (nthLoop (fnBody Try.f52) 0) spec_l05Bufs.sk4 spec_l05Bufs.xs4 d kn kx = spec_l05Bufs.l4 N d kn kx := by kernel_rfl
theorem spec_l05Bufs.i4 (N : Nat) : LoopsOk Try.prog (spec_l05Bufs.cfg N) (nthLoop (fnBody Try.f52) 0) := loopsL (l := []) (by kernel_rfl) trivial
theorem spec_l05Bufs.o4 (N : Nat) : LoopOk Try.prog (nthLoop (fnBody Try.f52) 0) (loopCon N spec_l05Bufs.sk4 spec_l05Bufs.xs4 (fun {R} => spec_l05Bufs.l4 (R := R) N)) := loop_ok (g := spec_l05Bufs.cfg N) tys_ok (spec_l05Bufs.cons N) mixed (spec_l05Bufs.i4 N) (fun d kn kx => spec_l05Bufs.h4 N d kn kx)
theorem spec_l05Bufs.ls (N : Nat) : LoopsOk Try.prog (spec_l05Bufs.cfg N) (fnBody Try.f52) := loopsL (l := [nthLoop (fnBody Try.f52) 0]) (by kernel_rfl) ⟨loopOne (L0 := loopCon N spec_l05Bufs.sk4 spec_l05Bufs.xs4 (fun {R} => spec_l05Bufs.l4 (R := R) N)) (id := 4) (by kernel_rfl) (by kernel_rfl) (spec_l05Bufs.o4 N), trivial⟩
theorem spec_l05Bufs.q4 {R R' : Type} {N n : Nat} {d} {k} {g : R → Option R'} : bindF (loopP (spec_l05Bufs.l4 N) n d k) g = loopP (spec_l05Bufs.l4 N) n d fun e => bindF (k e) g := bindF_loopP (fun d kn kx => by simp only [spec_l05Bufs.l4, bindF_ifB, bindF_bindO, bindF_pure, bindF_none, bindF_onSum]) n d k
theorem spec_l05Bufs.b (N : Nat) (x0 : den (.sl 25 (.pair (.sl 2 (.int .i64)) (.pair (.int .i64) (.pair (.int .i64) .unit))))) : body (spec_l05Bufs.cfg N) N Try.f52 [.one] [.v] [(false, .imm)] [⟨(.sl 25 (.pair (.sl 2 (.int .i64)) (.pair (.int .i64) (.pair (.int .i64) .unit)))), .imm, x0⟩] (fun r i => some (r, i)) = bindO (spec_l05Bufs N x0) fun r => some ([⟨.bool, .imm, r⟩], []) := by
  show _ = bindF _ _
  conv => rhs; simp only [spec_l05Bufs, bindF_ifB, bindF_bindO, bindF_pure, bindF_none, bindF_onSum, spec_l05Bufs.q4]
  kernel_rfl
theorem spec_l05Bufs.ok (N : Nat) : ConOk Try.prog 52 [.one] (spec_l05Bufs.con N) := by
  refine conOk_mk (g := spec_l05Bufs.cfg N) (N := N) (res := [(false, .imm)]) tys_ok (spec_l05Bufs.cons N) mixed Try.func52 (spec_l05Bufs.ls N) rfl rfl ?_
  intro ds R k y h
  cases ds with
  | nil => exact none_some h
  | cons d0 ds =>
  cases ds with
  | cons _ _ => exact none_some h
  | nil =>
  have h0 : (castDm (.sl 25 (.pair (.sl 2 (.int .i64)) (.pair (.int .i64) (.pair (.int .i64) .unit)))) .imm d0 fun x0 => bindO (spec_l05Bufs N x0) fun r => k [⟨.bool, .imm, r⟩] []) = some y := h
  clear h
  obtain ⟨x0, rfl, h1⟩ := castDm_eq h0
  exact con_fin (spec_l05Bufs.b N x0) h1
theorem spec_l05Bufs.det (N : Nat) : ConDet (spec_l05Bufs.con N) := by
  intro ds R k y h
  cases ds with
  | nil => exact none_some h
  | cons d0 ds =>
  cases ds with
  | cons _ _ => exact none_some h
  | nil =>
  have h0 : (castDm (.sl 25 (.pair (.sl 2 (.int .i64)) (.pair (.int .i64) (.pair (.int .i64) .unit)))) .imm d0 fun x0 => bindO (spec_l05Bufs N x0) fun r => k [⟨.bool, .imm, r⟩] []) = some y := h
  clear h
  obtain ⟨x0, rfl, h1⟩ := castDm_eq h0
  obtain ⟨r, e, h⟩ := bindO_some h1
  refine ⟨_, _, h, fun k' => ?_⟩
  show (castDm (.sl 25 (.pair (.sl 2 (.int .i64)) (.pair (.int .i64) (.pair (.int .i64) .unit)))) .imm (⟨(.sl 25 (.pair (.sl 2 (.int .i64)) (.pair (.int .i64) (.pair (.int .i64) .unit)))), .imm, x0⟩ : Dy) fun x0 => bindO (spec_l05Bufs N x0) fun r => k' [⟨.bool, .imm, r⟩] []) = _
  simp only [castDm_self]
  rw [e]
  rfl
noncomputable def spec_UndoRight.con (N : Nat) : Con := { modes := [.v], ptrs := [false], fn := fun ds k => match ds with | [d0] => castDm (.pair (.sl 25 (.pair (.sl 2 (.int .i64)) (.pair (.int .i64) (.pair (.int .i64) .unit)))) (.pair (.sl 25 (.pair (.sl 2 (.int .i64)) (.pair (.int .i64) (.pair (.int .i64) .unit)))) .unit)) .imm d0 fun x0 => bindO (spec_UndoRight N x0) fun r => k [⟨.bool, .imm, r⟩] [] | _ => none }
noncomputable def spec_UndoRight.cfg (N : Nat) : Cfg := { ty := tys, keep := [5, 9], flt := [], elm := [(22, (.own .imm)), (23, (.own .imm)), (24, (.pr (.own .imm) .imm)), (25, (.pr (.own .imm) .imm)), (26, (.own (.own .imm))), (29, (.own (.pr (.own .imm) .imm))), (30, (.pr (.own (.pr (.own .imm) .imm)) (.pr (.own (.pr (.own .imm) .imm)) .imm))), (31, (.pr (.own (.pr (.own .imm) .imm)) (.pr (.own (.pr (.own .imm) .imm)) .imm))), (32, (.pr (.pr (.own (.pr (.own .imm) .imm)) (.pr (.own (.pr (.own .imm) .imm)) .imm)) (.pr (.pr (.own .imm) .imm) .imm))), (33, (.pr (.pr (.own (.pr (.own .imm) .imm)) (.pr (.own (.pr (.own .imm) .imm)) .imm)) (.pr (.pr (.own .imm) .imm) .imm))), (44, (.pr (.own .imm) .imm)), (45, (.pr (.own .imm) .imm)), (52, (.pr (.pr (.own .imm) .imm) (.pr (.own .imm) .imm))), (53, (.pr (.pr (.own .imm) .imm) (.pr (.own .imm) .imm)))], live := [], ord := [], con := [((52, [.one]), spec_l05Bufs.con N)], loops := [], joins := [] }
theorem spec_UndoRight.cons (N : Nat) : ConsOk Try.prog (spec_UndoRight.cfg N).con := (consOk_cons (hb52) (spec_l05Bufs.ok N) (spec_l05Bufs.det N) consOk_nil)
theorem spec_UndoRight.ls (N : Nat) : LoopsOk Try.prog (spec_UndoRight.cfg N) (fnBody Try.f34) := loopsL (l := []) (by kernel_rfl) trivial
theorem spec_UndoRight.b (N : Nat) (x0 : den (.pair (.sl 25 (.pair (.sl 2 (.int .i64)) (.pair (.int .i64) (.pair (.int .i64) .unit)))) (.pair (.sl 25 (.pair (.sl 2 (.int .i64)) (.pair (.int .i64) (.pair (.int .i64) .unit)))) .unit))) : body (spec_UndoRight.cfg N) N Try.f34 [.one] [.v] [(false, .imm)] [⟨(.pair (.sl 25 (.pair (.sl 2 (.int .i64)) (.pair (.int .i64) (.pair (.int .i64) .unit)))) (.pair (.sl 25 (.pair (.sl 2 (.int .i64)) (.pair (.int .i64) (.pair (.int .i64) .unit)))) .unit)), .imm, x0⟩] (fun r i => some (r, i)) = bindO (spec_UndoRight N x0) fun r => some ([⟨.bool, .imm, r⟩], []) := by
  show _ = bindF _ _
  conv => rhs; simp only [spec_UndoRight, bindF_ifB, bindF_bindO, bindF_pure, bindF_none, bindF_onSum]
  kernel_rfl
theorem spec_UndoRight.ok (N : Nat) : ConOk Try.prog 34 [.one] (spec_UndoRight.con N) := by
  refine conOk_mk (g := spec_UndoRight.cfg N) (N := N) (res := [(false, .imm)]) tys_ok (spec_UndoRight.cons N) mixed Try.func34 (spec_UndoRight.ls N) rfl rfl ?_
  intro ds R k y h
  cases ds with
  | nil => exact none_some h
  | cons d0 ds =>
  cases ds with
  | cons _ _ => exact none_some h
  | nil =>
  have h0 : (castDm (.pair (.sl 25 (.pair (.sl 2 (.int .i64)) (.pair (.int .i64) (.pair (.int .i64) .unit)))) (.pair (.sl 25 (.pair (.sl 2 (.int .i64)) (.pair (.int .i64) (.pair (.int .i64) .unit)))) .unit)) .imm d0 fun x0 => bindO (spec_UndoRight N x0) fun r => k [⟨.bool, .imm, r⟩] []) = some y := h
  clear h
  obtain ⟨x0, rfl, h1⟩ := castDm_eq h0
  exact con_fin (spec_UndoRight.b N x0) h1
theorem spec_UndoRight.det (N : Nat) : ConDet (spec_UndoRight.con N) := by
  intro ds R k y h
  cases ds with
  | nil => exact none_some h
  | cons d0 ds =>
  cases ds with
  | cons _ _ => exact none_some h
  | nil =>
  have h0 : (castDm (.pair (.sl 25 (.pair (.sl 2 (.int .i64)) (.pair (.int .i64) (.pair (.int .i64) .unit)))) (.pair (.sl 25 (.pair (.sl 2 (.int .i64)) (.pair (.int .i64) (.pair (.int .i64) .unit)))) .unit)) .imm d0 fun x0 => bindO (spec_UndoRight N x0) fun r => k [⟨.bool, .imm, r⟩] []) = some y := h
  clear h
  obtain ⟨x0, rfl, h1⟩ := castDm_eq h0
  obtain ⟨r, e, h⟩ := bindO_some h1
  refine ⟨_, _, h, fun k' => ?_⟩
  show (castDm (.pair (.sl 25 (.pair (.sl 2 (.int .i64)) (.pair (.int .i64) (.pair (.int .i64) .unit)))) (.pair (.sl 25 (.pair (.sl 2 (.int .i64)) (.pair (.int .i64) (.pair (.int .i64) .unit)))) .unit)) .imm (⟨(.pair (.sl 25 (.pair (.sl 2 (.int .i64)) (.pair (.int .i64) (.pair (.int .i64) .unit)))) (.pair (.sl 25 (.pair (.sl 2 (.int .i64)) (.pair (.int .i64) (.pair (.int .i64) .unit)))) .unit)), .imm, x0⟩ : Dy) fun x0 => bindO (spec_UndoRight N x0) fun r => k' [⟨.bool, .imm, r⟩] []) = _
  simp only [castDm_self]
  rw [e]
  rfl
def spec_l05CopyBufs.sk3 : Skel := ⟨[.pv (.sl 25 (.pair (.sl 2 (.int .i64)) (.pair (.int .i64) (.pair (.int .i64) .unit)))), .dead, .dead, .ov 50 [], .pv (.int .i64), .dead, .dead, .dead, .dead, .dead, .dead, .dead, .dead, .dead, .dead, .dead, .dead, .dead, .dead, .dead, .dead], [⟨50, (.sl 25 (.pair (.sl 2 (.int .i64)) (.pair (.int .i64) (.pair (.int .i64) .unit)))), (.own (.pr (.own .imm) .imm)), false, false⟩]⟩
def spec_l05CopyBufs.xs3 : List XS := [⟨.exit 0, [3], ⟨[.dead, .dead, .dead, .ov 50 [], .dead, .dead, .dead, .dead, .dead, .dead, .dead, .dead, .dead, .dead, .dead, .dead, .dead, .dead, .dead, .dead, .dead], [⟨50, (.sl 25 (.pair (.sl 2 (.int .i64)) (.pair (.int .i64) (.pair (.int .i64) .unit)))), (.own (.pr (.own .imm) .imm)), false, false⟩]⟩⟩]
noncomputable def spec_l05CopyBufs.con (N : Nat) : Con := { modes := [.v], ptrs := [false], fn := fun ds k => match ds with | [d0] => castDm (.sl 25 (.pair (.sl 2 (.int .i64)) (.pair (.int .i64) (.pair (.int .i64) .unit)))) .imm d0 fun x0 => bindO (spec_l05CopyBufs N x0) fun r => k [⟨(.sl 25 (.pair (.sl 2 (.int .i64)) (.pair (.int .i64) (.pair (.int .i64) .unit)))), (.own (.pr (.own .imm) .imm)), r⟩] [] | _ => none }
noncomputable def spec_l05CopyBufs.cfg (N : Nat) : Cfg := { ty := tys, keep := [17], flt := [], elm := [(22, (.own .imm)), (23, (.own .imm)), (24, (.pr (.own .imm) .imm)), (25, (.pr (.own .imm) .imm)), (26, (.own (.own .imm))), (29, (.own (.pr (.own .imm) .imm))), (30, (.pr (.own (.pr (.own .imm) .imm)) (.pr (.own (.pr (.own .imm) .imm)) .imm))), (31, (.pr (.own (.pr (.own .imm) .imm)) (.pr (.own (.pr (.own .imm) .imm)) .imm))), (32, (.pr (.pr (.own (.pr (.own .imm) .imm)) (.pr (.own (.pr (.own .imm) .imm)) .imm)) (.pr (.pr (.own .imm) .imm) .imm))), (33, (.pr (.pr (.own (.pr (.own .imm) .imm)) (.pr (.own (.pr (.own .imm) .imm)) .imm)) (.pr (.pr (.own .imm) .imm) .imm))), (44, (.pr (.own .imm) .imm)), (45, (.pr (.own .imm) .imm)), (52, (.pr (.pr (.own .imm) .imm) (.pr (.own .imm) .imm))), (53, (.pr (.pr (.own .imm) .imm) (.pr (.own .imm) .imm)))], live := [(3, [0, 3, 4])], ord := [], con := [((17, [.one]), spec_l02Copy.con N)], loops := [(3, loopCon N spec_l05CopyBufs.sk3 spec_l05CopyBufs.xs3 (fun {R} => spec_l05CopyBufs.l3 (R := R) N))], joins := [] }
theorem spec_l05CopyBufs.cons (N : Nat) : ConsOk Try.prog (spec_l05CopyBufs.cfg N).con := (consOk_cons (hb17) (spec_l02Copy.ok N) (spec_l02Copy.det N) consOk_nil)
theorem spec_l05CopyBufs.h3 {R : Type} (N : Nat) (d : spec_l05CopyBufs.sk3.D) (kn : spec_l05CopyBufs.sk3.D → Option R) (kx : XD spec_l05CopyBufs.xs3 → Option R) : roundK (spec_l05CopyBufs.cfg N) N (nthLoop (fnBody Try.f35) 0) spec_l05CopyBufs.sk3 spec_l05CopyBufs.xs3 d kn kx = spec_l05CopyBufs.l3 N d kn kx := by kernel_rfl
theorem spec_l05CopyBufs.i3 (N : Nat) : LoopsOk Try.prog (spec_l05CopyBufs.cfg N) (nthLoop (fnBody Try.f35) 0) := loopsL (l := []) (by kernel_rfl) trivial
theorem spec_l05CopyBufs.o3 (N : Nat) : LoopOk Try.prog (nthLoop (fnBody Try.f35) 0) (loopCon N spec_l05CopyBufs.sk3 spec_l05CopyBufs.xs3 (fun {R} => spec_l05CopyBufs.l3 (R := R) N)) := loop_ok (g := spec_l05CopyBufs.cfg N) tys_ok (spec_l05CopyBufs.cons N) mixed (spec_l05CopyBufs.i3 N) (fun d kn kx => spec_l05CopyBufs.h3 N d kn kx)
theorem spec_l05CopyBufs.ls (N : Nat) : LoopsOk Try.prog (spec_l05CopyBufs.cfg N) (fnBody Try.f35) := loopsL (l := [nthLoop (fnBody Try.f35) 0]) (by kernel_rfl) ⟨loopOne (L0 := loopCon N spec_l05CopyBufs.sk3 spec_l05CopyBufs.xs3 (fun {R} => spec_l05CopyBufs.l3 (R := R) N)) (id := 3) (by kernel_rfl) (by kernel_rfl) (spec_l05CopyBufs.o3 N), trivial⟩
theorem spec_l05CopyBufs.q3 {R R' : Type} {N n : Nat} {d} {k} {g : R → Option R'} : bindF (loopP (spec_l05CopyBufs.l3 N) n d k) g = loopP (spec_l05CopyBufs.l3 N) n d fun e => bindF (k e) g := bindF_loopP (fun d kn kx => by simp only [spec_l05CopyBufs.l3, bindF_ifB, bindF_bindO, bindF_pure, bindF_none, bindF_onSum]) n d k
theorem spec_l05CopyBufs.b (N : Nat) (x0 : den (.sl 25 (.pair (.sl 2 (.int .i64)) (.pair (.int .i64) (.pair (.int .i64) .unit))))) : body (spec_l05CopyBufs.cfg N) N Try.f35 [.one] [.v] [(false, (.own (.pr (.own .imm) .imm)))] [⟨(.sl 25 (.pair (.sl 2 (.int .i64)) (.pair (.int .i64) (.pair (.int .i64) .unit)))), .imm, x0⟩] (fun r i => some (r, i)) = bindO (spec_l05CopyBufs N x0) fun r => some ([⟨(.sl 25 (.pair (.sl 2 (.int .i64)) (.pair (.int .i64) (.pair (.int .i64) .unit)))), (.own (.pr (.own .imm) .imm)), r⟩], []) := by
  show _ = bindF _ _
  conv => rhs; simp only [spec_l05CopyBufs, bindF_ifB, bindF_bindO, bindF_pure, bindF_none, bindF_onSum, spec_l05CopyBufs.q3]
  kernel_rfl
theorem spec_l05CopyBufs.ok (N : Nat) : ConOk Try.prog 35 [.one] (spec_l05CopyBufs.con N) := by
  refine conOk_mk (g := spec_l05CopyBufs.cfg N) (N := N) (res := [(false, (.own (.pr (.own .imm) .imm)))]) tys_ok (spec_l05CopyBufs.cons N) mixed Try.func35 (spec_l05CopyBufs.ls N) rfl rfl ?_
  intro ds R k y h
  cases ds with
  | nil => exact none_some h
  | cons d0 ds =>
  cases ds with
  | cons _ _ => exact none_some h
  | nil =>
  have h0 : (castDm (.sl 25 (.pair (.sl 2 (.int .i64)) (.pair (.int .i64) (.pair (.int .i64) .unit)))) .imm d0 fun x0 => bindO (spec_l05CopyBufs N x0) fun r => k [⟨(.sl 25 (.pair (.sl 2 (.int .i64)) (.pair (.int .i64) (.pair (.int .i64) .unit)))), (.own (.pr (.own .imm) .imm)), r⟩] []) = some y := h
  clear h
  obtain ⟨x0, rfl, h1⟩ := castDm_eq h0
  exact con_fin (spec_l05CopyBufs.b N x0) h1
theorem spec_l05CopyBufs.det (N : Nat) : ConDet (spec_l05CopyBufs.con N) := by
  intro ds R k y h
  cases ds with
  | nil => exact none_some h
  | cons d0 ds =>
  cases ds with
  | cons _ _ => exact none_some h
  | nil =>
  have h0 : (castDm (.sl 25 (.pair (.sl 2 (.int .i64)) (.pair (.int .i64) (.pair (.int .i64) .unit)))) .imm d0 fun x0 => bindO (spec_l05CopyBufs N x0) fun r => k [⟨(.sl 25 (.pair (.sl 2 (.int .i64)) (.pair (.int .i64) (.pair (.int .i64) .unit)))), (.own (.pr (.own .imm) .imm)), r⟩] []) = some y := h
  clear h
  obtain ⟨x0, rfl, h1⟩ := castDm_eq h0
  obtain ⟨r, e, h⟩ := bindO_some h1
  refine ⟨_, _, h, fun k' => ?_⟩
  show (castDm (.sl 25 (.pair (.sl 2 (.int .i64)) (.pair (.int .i64) (.pair (.int .i64) .unit)))) .imm (⟨(.sl 25 (.pair (.sl 2 (.int .i64)) (.pair (.int .i64) (.pair (.int .i64) .unit)))), .imm, x0⟩ : Dy) fun x0 => bindO (spec_l05CopyBufs N x0) fun r => k' [⟨(.sl 25 (.pair (.sl 2 (.int .i64)) (.pair (.int .i64) (.pair (.int .i64) .unit)))), (.own (.pr (.own .imm) .imm)), r⟩] []) = _
  simp only [castDm_self]
  rw [e]
  rfl
noncomputable def spec_l05Put.con (N : Nat) : Con := { modes := [.v, .v], ptrs := [false], fn := fun ds k => match ds with | [d0, d1] => castDm (.sl 25 (.pair (.sl 2 (.int .i64)) (.pair (.int .i64) (.pair (.int .i64) .unit)))) .imm d0 fun x0 => castDm (.pair (.sl 2 (.int .i64)) (.pair (.int .i64) (.pair (.int .i64) .unit))) .imm d1 fun x1 => bindO (spec_l05Put N x0 x1) fun r => k [⟨(.sl 25 (.pair (.sl 2 (.int .i64)) (.pair (.int .i64) (.pair (.int .i64) .unit)))), (.own (.pr (.own .imm) .imm)), r⟩] [] | _ => none }
noncomputable def spec_l05Put.cfg (N : Nat) : Cfg := { ty := tys, keep := [7, 9], flt := [], elm := [(22, (.own .imm)), (23, (.own .imm)), (24, (.pr (.own .imm) .imm)), (25, (.pr (.own .imm) .imm)), (26, (.own (.own .imm))), (29, (.own (.pr (.own .imm) .imm))), (30, (.pr (.own (.pr (.own .imm) .imm)) (.pr (.own (.pr (.own .imm) .imm)) .imm))), (31, (.pr (.own (.pr (.own .imm) .imm)) (.pr (.own (.pr (.own .imm) .imm)) .imm))), (32, (.pr (.pr (.own (.pr (.own .imm) .imm)) (.pr (.own (.pr (.own .imm) .imm)) .imm)) (.pr (.pr (.own .imm) .imm) .imm))), (33, (.pr (.pr (.own (.pr (.own .imm) .imm)) (.pr (.own (.pr (.own .imm) .imm)) .imm)) (.pr (.pr (.own .imm) .imm) .imm))), (44, (.pr (.own .imm) .imm)), (45, (.pr (.own .imm) .imm)), (52, (.pr (.pr (.own .imm) .imm) (.pr (.own .imm) .imm))), (53, (.pr (.pr (.own .imm) .imm) (.pr (.own .imm) .imm)))], live := [], ord := [(1, [0, 2, 1, 3, 4, 5, 6])], con := [((35, [.one]), spec_l05CopyBufs.con N), ((17, [.one]), spec_l02Copy.con N)], loops := [], joins := [] }
theorem spec_l05Put.cons (N : Nat) : ConsOk Try.prog (spec_l05Put.cfg N).con := (consOk_cons (hb35) (spec_l05CopyBufs.ok N) (spec_l05CopyBufs.det N) (consOk_cons (hb17) (spec_l02Copy.ok N) (spec_l02Copy.det N) consOk_nil))
theorem spec_l05Put.ls (N : Nat) : LoopsOk Try.prog (spec_l05Put.cfg N) (fnBody Try.f36) := loopsL (l := []) (by kernel_rfl) trivial
theorem spec_l05Put.b (N : Nat) (x0 : den (.sl 25 (.pair (.sl 2 (.int .i64)) (.pair (.int .i64) (.pair (.int .i64) .unit))))) (x1 : den (.pair (.sl 2 (.int .i64)) (.pair (.int .i64) (.pair (.int .i64) .unit)))) : body (spec_l05Put.cfg N) N Try.f36 [.one, .one] [.v, .v] [(false, (.own (.pr (.own .imm) .imm)))] [⟨(.sl 25 (.pair (.sl 2 (.int .i64)) (.pair (.int .i64) (.pair (.int .i64) .unit)))), .imm, x0⟩, ⟨(.pair (.sl 2 (.int .i64)) (.pair (.int .i64) (.pair (.int .i64) .unit))), .imm, x1⟩] (fun r i => some (r, i)) = bindO (spec_l05Put N x0 x1) fun r => some ([⟨(.sl 25 (.pair (.sl 2 (.int .i64)) (.pair (.int .i64) (.pair (.int .i64) .unit)))), (.own (.pr (.own .imm) .imm)), r⟩], []) := by
  show _ = bindF _ _
  conv => rhs; simp only [spec_l05Put, bindF_ifB, bindF_bindO, bindF_pure, bindF_none, bindF_onSum]
  kernel_rfl
theorem spec_l05Put.ok (N : Nat) : ConOk Try.prog 36 [.one, .one] (spec_l05Put.con N) := by
  refine conOk_mk (g := spec_l05Put.cfg N) (N := N) (res := [(false, (.own (.pr (.own .imm) .imm)))]) tys_ok (spec_l05Put.cons N) mixed Try.func36 (spec_l05Put.ls N) rfl rfl ?_
  intro ds R k y h
  cases ds with
  | nil => exact none_some h
  | cons d0 ds =>
  cases ds with
  | nil => exact none_some h
  | cons d1 ds =>
  cases ds with
  | cons _ _ => exact none_some h
  | nil =>
  have h0 : (castDm (.sl 25 (.pair (.sl 2 (.int .i64)) (.pair (.int .i64) (.pair (.int .i64) .unit)))) .imm d0 fun x0 => castDm (.pair (.sl 2 (.int .i64)) (.pair (.int .i64) (.pair (.int .i64) .unit))) .imm d1 fun x1 => bindO (spec_l05Put N x0 x1) fun r => k [⟨(.sl 25 (.pair (.sl 2 (.int .i64)) (.pair (.int .i64) (.pair (.int .i64) .unit)))), (.own (.pr (.own .imm) .imm)), r⟩] []) = some y := h
  clear h
  obtain ⟨x0, rfl, h1⟩ := castDm_eq h0
  obtain ⟨x1, rfl, h2⟩ := castDm_eq h1
  exact con_fin (spec_l05Put.b N x0 x1) h2
theorem spec_l05Put.det (N : Nat) : ConDet (spec_l05Put.con N) := by
  intro ds R k y h
  cases ds with
  | nil => exact none_some h
  | cons d0 ds =>
  cases ds with
  | nil => exact none_some h
  | cons d1 ds =>
  cases ds with
  | cons _ _ => exact none_some h
  | nil =>
  have h0 : (castDm (.sl 25 (.pair (.sl 2 (.int .i64)) (.pair (.int .i64) (.pair (.int .i64) .unit)))) .imm d0 fun x0 => castDm (.pair (.sl 2 (.int .i64)) (.pair (.int .i64) (.pair (.int .i64) .unit))) .imm d1 fun x1 => bindO (spec_l05Put N x0 x1) fun r => k [⟨(.sl 25 (.pair (.sl 2 (.int .i64)) (.pair (.int .i64) (.pair (.int .i64) .unit)))), (.own (.pr (.own .imm) .imm)), r⟩] []) = some y := h
  clear h
  obtain ⟨x0, rfl, h1⟩ := castDm_eq h0
  obtain ⟨x1, rfl, h2⟩ := castDm_eq h1
  obtain ⟨r, e, h⟩ := bindO_some h2
  refine ⟨_, _, h, fun k' => ?_⟩
  show (castDm (.sl 25 (.pair (.sl 2 (.int .i64)) (.pair (.int .i64) (.pair (.int .i64) .unit)))) .imm (⟨(.sl 25 (.pair (.sl 2 (.int .i64)) (.pair (.int .i64) (.pair (.int .i64) .unit)))), .imm, x0⟩ : Dy) fun x0 => castDm (.pair (.sl 2 (.int .i64)) (.pair (.int .i64) (.pair (.int .i64) .unit))) .imm (⟨(.pair (.sl 2 (.int .i64)) (.pair (.int .i64) (.pair (.int .i64) .unit))), .imm, x1⟩ : Dy) fun x1 => bindO (spec_l05Put N x0 x1) fun r => k' [⟨(.sl 25 (.pair (.sl 2 (.int .i64)) (.pair (.int .i64) (.pair (.int .i64) .unit)))), (.own (.pr (.own .imm) .imm)), r⟩] []) = _
  simp only [castDm_self]
  rw [e]
  rfl
noncomputable def spec_UndoBack.con (N : Nat) : Con := { modes := [.v, .v], ptrs := [false], fn := fun ds k => match ds with | [d0, d1] => castDm (.pair (.sl 25 (.pair (.sl 2 (.int .i64)) (.pair (.int .i64) (.pair (.int .i64) .unit)))) (.pair (.sl 25 (.pair (.sl 2 (.int .i64)) (.pair (.int .i64) (.pair (.int .i64) .unit)))) .unit)) .imm d0 fun x0 => castDm (.pair (.sl 2 (.int .i64)) (.pair (.int .i64) (.pair (.int .i64) .unit))) .imm d1 fun x1 => bindO (spec_UndoBack N x0 x1) fun r => k [⟨(.pair (.pair (.sl 25 (.pair (.sl 2 (.int .i64)) (.pair (.int .i64) (.pair (.int .i64) .unit)))) (.pair (.sl 25 (.pair (.sl 2 (.int .i64)) (.pair (.int .i64) (.pair (.int .i64) .unit)))) .unit)) (.pair (.pair (.sl 2 (.int .i64)) (.pair (.int .i64) (.pair (.int .i64) .unit))) (.pair (.int .i64) .unit))), (.pr (.pr (.own (.pr (.own .imm) .imm)) (.pr (.own (.pr (.own .imm) .imm)) .imm)) (.pr (.pr (.own .imm) .imm) .imm)), r⟩] [] | _ => none }
noncomputable def spec_UndoBack.cfg (N : Nat) : Cfg := { ty := tys, keep := [8, 12, 27, 31, 40], flt := [], elm := [(22, (.own .imm)), (23, (.own .imm)), (24, (.pr (.own .imm) .imm)), (25, (.pr (.own .imm) .imm)), (26, (.own (.own .imm))), (29, (.own (.pr (.own .imm) .imm))), (30, (.pr (.own (.pr (.own .imm) .imm)) (.pr (.own (.pr (.own .imm) .imm)) .imm))), (31, (.pr (.own (.pr (.own .imm) .imm)) (.pr (.own (.pr (.own .imm) .imm)) .imm))), (32, (.pr (.pr (.own (.pr (.own .imm) .imm)) (.pr (.own (.pr (.own .imm) .imm)) .imm)) (.pr (.pr (.own .imm) .imm) .imm))), (33, (.pr (.pr (.own (.pr (.own .imm) .imm)) (.pr (.own (.pr (.own .imm) .imm)) .imm)) (.pr (.pr (.own .imm) .imm) .imm))), (44, (.pr (.own .imm) .imm)), (45, (.pr (.own .imm) .imm)), (52, (.pr (.pr (.own .imm) .imm) (.pr (.own .imm) .imm))), (53, (.pr (.pr (.own .imm) .imm) (.pr (.own .imm) .imm)))], live := [], ord := [(6, [11, 0, 1, 2, 3, 4, 6, 7, 8, 5, 9, 10, 12]), (7, [0, 1, 2, 3, 4, 5, 6, 7, 8, 9])], con := [((34, [.one]), spec_UndoRight.con N), ((15, [.one]), spec_BufRight.con N), ((35, [.one]), spec_l05CopyBufs.con N), ((36, [.one, .one]), spec_l05Put.con N), ((17, [.one]), spec_l02Copy.con N)], loops := [], joins := [] }
theorem spec_UndoBack.cons (N : Nat) : ConsOk Try.prog (spec_UndoBack.cfg N).con := (consOk_cons (hb34) (spec_UndoRight.ok N) (spec_UndoRight.det N) (consOk_cons (hb15) (spec_BufRight.ok N) (spec_BufRight.det N) (consOk_cons (hb35) (spec_l05CopyBufs.ok N) (spec_l05CopyBufs.det N) (consOk_cons (hb36) (spec_l05Put.ok N) (spec_l05Put.det N) (consOk_cons (hb17) (spec_l02Copy.ok N) (spec_l02Copy.det N) consOk_nil)))))
theorem spec_UndoBack.ls (N : Nat) : LoopsOk Try.prog (spec_UndoBack.cfg N) (fnBody Try.f18) := loopsL (l := []) (by kernel_rfl) trivial
theorem spec_UndoBack.b (N : Nat) (x0 : den (.pair (.sl 25 (.pair (.sl 2 (.int .i64)) (.pair (.int .i64) (.pair (.int .i64) .unit)))) (.pair (.sl 25 (.pair (.sl 2 (.int .i64)) (.pair (.int .i64) (.pair (.int .i64) .unit)))) .unit))) (x1 : den (.pair (.sl 2 (.int .i64)) (.pair (.int .i64) (.pair (.int .i64) .unit)))) : body (spec_UndoBack.cfg N) N Try.f18 [.one, .one] [.v, .v] [(false, (.pr (.pr (.own (.pr (.own .imm) .imm)) (.pr (.own (.pr (.own .imm) .imm)) .imm)) (.pr (.pr (.own .imm) .imm) .imm)))] [⟨(.pair (.sl 25 (.pair (.sl 2 (.int .i64)) (.pair (.int .i64) (.pair (.int .i64) .unit)))) (.pair (.sl 25 (.pair (.sl 2 (.int .i64)) (.pair (.int .i64) (.pair (.int .i64) .unit)))) .unit)), .imm, x0⟩, ⟨(.pair (.sl 2 (.int .i64)) (.pair (.int .i64) (.pair (.int .i64) .unit))), .imm, x1⟩] (fun r i => some (r, i)) = bindO (spec_UndoBack N x0 x1) fun r => some ([⟨(.pair (.pair (.sl 25 (.pair (.sl 2 (.int .i64)) (.pair (.int .i64) (.pair (.int .i64) .unit)))) (.pair (.sl 25 (.pair (.sl 2 (.int .i64)) (.pair (.int .i64) (.pair (.int .i64) .unit)))) .unit)) (.pair (.pair (.sl 2 (.int .i64)) (.pair (.int .i64) (.pair (.int .i64) .unit))) (.pair (.int .i64) .unit))), (.pr (.pr (.own (.pr (.own .imm) .imm)) (.pr (.own (.pr (.own .imm) .imm)) .imm)) (.pr (.pr (.own .imm) .imm) .imm)), r⟩], []) := by
  show _ = bindF _ _
  conv => rhs; simp only [spec_UndoBack, bindF_ifB, bindF_bindO, bindF_pure, bindF_none, bindF_onSum]
  kernel_rfl
theorem spec_UndoBack.ok (N : Nat) : ConOk Try.prog 18 [.one, .one] (spec_UndoBack.con N) := by
  refine conOk_mk (g := spec_UndoBack.cfg N) (N := N) (res := [(false, (.pr (.pr (.own (.pr (.own .imm) .imm)) (.pr (.own (.pr (.own .imm) .imm)) .imm)) (.pr (.pr (.own .imm) .imm) .imm)))]) tys_ok (spec_UndoBack.cons N) mixed Try.func18 (spec_UndoBack.ls N) rfl rfl ?_
  intro ds R k y h
  cases ds with
  | nil => exact none_some h
  | cons d0 ds =>
  cases ds with
  | nil => exact none_some h
  | cons d1 ds =>
  cases ds with
  | cons _ _ => exact none_some h
  | nil =>
  have h0 : (castDm (.pair (.sl 25 (.pair (.sl 2 (.int .i64)) (.pair (.int .i64) (.pair (.int .i64) .unit)))) (.pair (.sl 25 (.pair (.sl 2 (.int .i64)) (.pair (.int .i64) (.pair (.int .i64) .unit)))) .unit)) .imm d0 fun x0 => castDm (.pair (.sl 2 (.int .i64)) (.pair (.int .i64) (.pair (.int .i64) .unit))) .imm d1 fun x1 => bindO (spec_UndoBack N x0 x1) fun r => k [⟨(.pair (.pair (.sl 25 (.pair (.sl 2 (.int .i64)) (.pair (.int .i64) (.pair (.int .i64) .unit)))) (.pair (.sl 25 (.pair (.sl 2 (.int .i64)) (.pair (.int .i64) (.pair (.int .i64) .unit)))) .unit)) (.pair (.pair (.sl 2 (.int .i64)) (.pair (.int .i64) (.pair (.int .i64) .unit))) (.pair (.int .i64) .unit))), (.pr (.pr (.own (.pr (.own .imm) .imm)) (.pr (.own (.pr (.own .imm) .imm)) .imm)) (.pr (.pr (.own .imm) .imm) .imm)), r⟩] []) = some y := h
  clear h
  obtain ⟨x0, rfl, h1⟩ := castDm_eq h0
  obtain ⟨x1, rfl, h2⟩ := castDm_eq h1
  exact con_fin (spec_UndoBack.b N x0 x1) h2
theorem spec_UndoBack.det (N : Nat) : ConDet (spec_UndoBack.con N) := by
  intro ds R k y h
  cases ds with
  | nil => exact none_some h
  | cons d0 ds =>
  cases ds with
  | nil => exact none_some h
  | cons d1 ds =>
  cases ds with
  | cons _ _ => exact none_some h
  | nil =>
  have h0 : (castDm (.pair (.sl 25 (.pair (.sl 2 (.int .i64)) (.pair (.int .i64) (.pair (.int .i64) .unit)))) (.pair (.sl 25 (.pair (.sl 2 (.int .i64)) (.pair (.int .i64) (.pair (.int .i64) .unit)))) .unit)) .imm d0 fun x0 => castDm (.pair (.sl 2 (.int .i64)) (.pair (.int .i64) (.pair (.int .i64) .unit))) .imm d1 fun x1 => bindO (spec_UndoBack N x0 x1) fun r => k [⟨(.pair (.pair (.sl 25 (.pair (.sl 2 (.int .i64)) (.pair (.int .i64) (.pair (.int .i64) .unit)))) (.pair (.sl 25 (.pair (.sl 2 (.int .i64)) (.pair (.int .i64) (.pair (.int .i64) .unit)))) .unit)) (.pair (.pair (.sl 2 (.int .i64)) (.pair (.int .i64) (.pair (.int .i64) .unit))) (.pair (.int .i64) .unit))), (.pr (.pr (.own (.pr (.own .imm) .imm)) (.pr (.own (.pr (.own .imm) .imm)) .imm)) (.pr (.pr (.own .imm) .imm) .imm)), r⟩] []) = some y := h
  clear h
  obtain ⟨x0, rfl, h1⟩ := castDm_eq h0
  obtain ⟨x1, rfl, h2⟩ := castDm_eq h1
  obtain ⟨r, e, h⟩ := bindO_some h2
  refine ⟨_, _, h, fun k' => ?_⟩
  show (castDm (.pair (.sl 25 (.pair (.sl 2 (.int .i64)) (.pair (.int .i64) (.pair (.int .i64) .unit)))) (.pair (.sl 25 (.pair (.sl 2 (.int .i64)) (.pair (.int .i64) (.pair (.int .i64) .unit)))) .unit)) .imm (⟨(.pair (.sl 25 (.pair (.sl 2 (.int .i64)) (.pair (.int .i64) (.pair (.int .i64) .unit)))) (.pair (.sl 25 (.pair (.sl 2 (.int .i64)) (.pair (.int .i64) (.pair (.int .i64) .unit)))) .unit)), .imm, x0⟩ : Dy) fun x0 => castDm (.pair (.sl 2 (.int .i64)) (.pair (.int .i64) (.pair (.int .i64) .unit))) .imm (⟨(.pair (.sl 2 (.int .i64)) (.pair (.int .i64) (.pair (.int .i64) .unit))), .imm, x1⟩ : Dy) fun x1 => bindO (spec_UndoBack N x0 x1) fun r => k' [⟨(.pair (.pair (.sl 25 (.pair (.sl 2 (.int .i64)) (.pair (.int .i64) (.pair (.int .i64) .unit)))) (.pair (.sl 25 (.pair (.sl 2 (.int .i64)) (.pair (.int .i64) (.pair (.int .i64) .unit)))) .unit)) (.pair (.pair (.sl 2 (.int .i64)) (.pair (.int .i64) (.pair (.int .i64) .unit))) (.pair (.int .i64) .unit))), (.pr (.pr (.own (.pr (.own .imm) .imm)) (.pr (.own (.pr (.own .imm) .imm)) .imm)) (.pr (.pr (.own .imm) .imm) .imm)), r⟩] []) = _
  simp only [castDm_self]
  rw [e]
  rfl
noncomputable def spec_l02Moved.con (N : Nat) : Con := { modes := [.v, .v, .v, .v], ptrs := [false], fn := fun ds k => match ds with | [d0, d1, d2, d3] => castDm (.int .i64) .imm d0 fun x0 => castDm (.int .i64) .imm d1 fun x1 => castDm (.int .i64) .imm d2 fun x2 => castDm (.int .i64) .imm d3 fun x3 => bindO (spec_l02Moved N x0 x1 x2 x3) fun r => k [⟨(.int .i64), .imm, r⟩] [] | _ => none }
noncomputable def spec_l02Moved.cfg (N : Nat) : Cfg := { ty := tys, keep := [], flt := [], elm := [(22, (.own .imm)), (23, (.own .imm)), (24, (.pr (.own .imm) .imm)), (25, (.pr (.own .imm) .imm)), (26, (.own (.own .imm))), (29, (.own (.pr (.own .imm) .imm))), (30, (.pr (.own (.pr (.own .imm) .imm)) (.pr (.own (.pr (.own .imm) .imm)) .imm))), (31, (.pr (.own (.pr (.own .imm) .imm)) (.pr (.own (.pr (.own .imm) .imm)) .imm))), (32, (.pr (.pr (.own (.pr (.own .imm) .imm)) (.pr (.own (.pr (.own .imm) .imm)) .imm)) (.pr (.pr (.own .imm) .imm) .imm))), (33, (.pr (.pr (.own (.pr (.own .imm) .imm)) (.pr (.own (.pr (.own .imm) .imm)) .imm)) (.pr (.pr (.own .imm) .imm) .imm))), (44, (.pr (.own .imm) .imm)), (45, (.pr (.own .imm) .imm)), (52, (.pr (.pr (.own .imm) .imm) (.pr (.own .imm) .imm))), (53, (.pr (.pr (.own .imm) .imm) (.pr (.own .imm) .imm)))], live := [], ord := [], con := [], loops := [], joins := [] }
theorem spec_l02Moved.cons (N : Nat) : ConsOk Try.prog (spec_l02Moved.cfg N).con := consOk_nil
theorem spec_l02Moved.ls (N : Nat) : LoopsOk Try.prog (spec_l02Moved.cfg N) (fnBody Try.f53) := loopsL (l := []) (by kernel_rfl) trivial
theorem spec_l02Moved.b (N : Nat) (x0 : den (.int .i64)) (x1 : den (.int .i64)) (x2 : den (.int .i64)) (x3 : den (.int .i64)) : body (spec_l02Moved.cfg N) N Try.f53 [.one, .one, .one, .one] [.v, .v, .v, .v] [(false, .imm)] [⟨(.int .i64), .imm, x0⟩, ⟨(.int .i64), .imm, x1⟩, ⟨(.int .i64), .imm, x2⟩, ⟨(.int .i64), .imm, x3⟩] (fun r i => some (r, i)) = bindO (spec_l02Moved N x0 x1 x2 x3) fun r => some ([⟨(.int .i64), .imm, r⟩], []) := by
  show _ = bindF _ _
  conv => rhs; simp only [spec_l02Moved, bindF_ifB, bindF_bindO, bindF_pure, bindF_none, bindF_onSum]
  kernel_rfl
theorem spec_l02Moved.ok (N : Nat) : ConOk Try.prog 53 [.one, .one, .one, .one] (spec_l02Moved.con N) := by
  refine conOk_mk (g := spec_l02Moved.cfg N) (N := N) (res := [(false, .imm)]) tys_ok (spec_l02Moved.cons N) mixed Try.func53 (spec_l02Moved.ls N) rfl rfl ?_
  intro ds R k y h
  cases ds with
  | nil => exact none_some h
  | cons d0 ds =>
  cases ds with
  | nil => exact none_some h
  | cons d1 ds =>
  cases ds with
  | nil => exact none_some h
  | cons d2 ds =>
  cases ds with
  | nil => exact none_some h
  | cons d3 ds =>
  cases ds with
  | cons _ _ => exact none_some h
  | nil =>
  have h0 : (castDm (.int .i64) .imm d0 fun x0 => castDm (.int .i64) .imm d1 fun x1 => castDm (.int .i64) .imm d2 fun x2 => castDm (.int .i64) .imm d3 fun x3 => bindO (spec_l02Moved N x0 x1 x2 x3) fun r => k [⟨(.int .i64), .imm, r⟩] []) = some y := h
  clear h
  obtain ⟨x0, rfl, h1⟩ := castDm_eq h0
  obtain ⟨x1, rfl, h2⟩ := castDm_eq h1
  obtain ⟨x2, rfl, h3⟩ := castDm_eq h2
  obtain ⟨x3, rfl, h4⟩ := castDm_eq h3
  exact con_fin (spec_l02Moved.b N x0 x1 x2 x3) h4
theorem spec_l02Moved.det (N : Nat) : ConDet (spec_l02Moved.con N) := by
  intro ds R k y h
  cases ds with
  | nil => exact none_some h
  | cons d0 ds =>
  cases ds with
  | nil => exact none_some h
  | cons d1 ds =>
  cases ds with
  | nil => exact none_some h
  | cons d2 ds =>
  cases ds with
  | nil => exact none_some h
  | cons d3 ds =>
  cases ds with
  | cons _ _ => exact none_some h
  | nil =>
  have h0 : (castDm (.int .i64) .imm d0 fun x0 => castDm (.int .i64) .imm d1 fun x1 => castDm (.int .i64) .imm d2 fun x2 => castDm (.int .i64) .imm d3 fun x3 => bindO (spec_l02Moved N x0 x1 x2 x3) fun r => k [⟨(.int .i64), .imm, r⟩] []) = some y := h
  clear h
  obtain ⟨x0, rfl, h1⟩ := castDm_eq h0
  obtain ⟨x1, rfl, h2⟩ := castDm_eq h1
  obtain ⟨x2, rfl, h3⟩ := castDm_eq h2
  obtain ⟨x3, rfl, h4⟩ := castDm_eq h3
  obtain ⟨r, e, h⟩ := bindO_some h4
  refine ⟨_, _, h, fun k' => ?_⟩
  show (castDm (.int .i64) .imm (⟨(.int .i64), .imm, x0⟩ : Dy) fun x0 => castDm (.int .i64) .imm (⟨(.int .i64), .imm, x1⟩ : Dy) fun x1 => castDm (.int .i64) .imm (⟨(.int .i64), .imm, x2⟩ : Dy) fun x2 => castDm (.int .i64) .imm (⟨(.int .i64), .imm, x3⟩ : Dy) fun x3 => bindO (spec_l02Moved N x0 x1 x2 x3) fun r => k' [⟨(.int .i64), .imm, r⟩] []) = _
  simp only [castDm_self]
  rw [e]
  rfl
noncomputable def spec_BufReplace.con (N : Nat) : Con := { modes := [.v, .v, .v, .v], ptrs := [false], fn := fun ds k => match ds with | [d0, d1, d2, d3] => castDm (.pair (.sl 2 (.int .i64)) (.pair (.int .i64) (.pair (.int .i64) .unit))) .imm d0 fun x0 => castDm (.int .i64) .imm d1 fun x1 => castDm (.int .i64) .imm d2 fun x2 => castDm (.sl 2 (.int .i64)) .imm d3 fun x3 => bindO (spec_BufReplace N x0 x1 x2 x3) fun r => k [⟨(.pair (.pair (.sl 2 (.int .i64)) (.pair (.int .i64) (.pair (.int .i64) .unit))) (.pair (.sl 2 (.int .i64)) (.pair (.int .i64) .unit))), (.pr (.pr (.own .imm) .imm) (.pr (.own .imm) .imm)), r⟩] [] | _ => none }
noncomputable def spec_BufReplace.cfg (N : Nat) : Cfg := { ty := tys, keep := [18, 22, 63, 69, 75, 103], flt := [], elm := [(22, (.own .imm)), (23, (.own .imm)), (24, (.pr (.own .imm) .imm)), (25, (.pr (.own .imm) .imm)), (26, (.own (.own .imm))), (29, (.own (.pr (.own .imm) .imm))), (30, (.pr (.own (.pr (.own .imm) .imm)) (.pr (.own (.pr (.own .imm) .imm)) .imm))), (31, (.pr (.own (.pr (.own .imm) .imm)) (.pr (.own (.pr (.own .imm) .imm)) .imm))), (32, (.pr (.pr (.own (.pr (.own .imm) .imm)) (.pr (.own (.pr (.own .imm) .imm)) .imm)) (.pr (.pr (.own .imm) .imm) .imm))), (33, (.pr (.pr (.own (.pr (.own .imm) .imm)) (.pr (.own (.pr (.own .imm) .imm)) .imm)) (.pr (.pr (.own .imm) .imm) .imm))), (44, (.pr (.own .imm) .imm)), (45, (.pr (.own .imm) .imm)), (52, (.pr (.pr (.own .imm) .imm) (.pr (.own .imm) .imm))), (53, (.pr (.pr (.own .imm) .imm) (.pr (.own .imm) .imm)))], live := [], ord := [(12, [13, 0, 1, 2, 3, 4, 6, 7, 8, 9, 10, 5, 11, 12, 14]), (13, [0, 1, 2, 3, 5, 7, 8, 9, 10, 4, 6, 11, 12, 13]), (16, [0, 1, 2, 3, 4, 5, 6, 7, 8])], con := [((15, [.one]), spec_BufRight.con N), ((16, [.one]), spec_PointsRight.con N), ((53, [.one, .one, .one, .one]), spec_l02Moved.con N), ((33, [.one]), spec_l01Copy.con N)], loops := [], joins := [] }
theorem spec_BufReplace.cons (N : Nat) : ConsOk Try.prog (spec_BufReplace.cfg N).con := (consOk_cons (hb15) (spec_BufRight.ok N) (spec_BufRight.det N) (consOk_cons (hb16) (spec_PointsRight.ok N) (spec_PointsRight.det N) (consOk_cons (hb53) (spec_l02Moved.ok N) (spec_l02Moved.det N) (consOk_cons (hb33) (spec_l01Copy.ok N) (spec_l01Copy.det N) consOk_nil))))
theorem spec_BufReplace.ls (N : Nat) : LoopsOk Try.prog (spec_BufReplace.cfg N) (fnBody Try.f37) := loopsL (l := []) (by kernel_rfl) trivial
theorem spec_BufReplace.b (N : Nat) (x0 : den (.pair (.sl 2 (.int .i64)) (.pair (.int .i64) (.pair (.int .i64) .unit)))) (x1 : den (.int .i64)) (x2 : den (.int .i64)) (x3 : den (.sl 2 (.int .i64))) : body (spec_BufReplace.cfg N) N Try.f37 [.one, .one, .one, .one] [.v, .v, .v, .v] [(false, (.pr (.pr (.own .imm) .imm) (.pr (.own .imm) .imm)))] [⟨(.pair (.sl 2 (.int .i64)) (.pair (.int .i64) (.pair (.int .i64) .unit))), .imm, x0⟩, ⟨(.int .i64), .imm, x1⟩, ⟨(.int .i64), .imm, x2⟩, ⟨(.sl 2 (.int .i64)), .imm, x3⟩] (fun r i => some (r, i)) = bindO (spec_BufReplace N x0 x1 x2 x3) fun r => some ([⟨(.pair (.pair (.sl 2 (.int .i64)) (.pair (.int .i64) (.pair (.int .i64) .unit))) (.pair (.sl 2 (.int .i64)) (.pair (.int .i64) .unit))), (.pr (.pr (.own .imm) .imm) (.pr (.own .imm) .imm)), r⟩], []) := by
  show _ = bindF _ _
  conv => rhs; simp only [spec_BufReplace, bindF_ifB, bindF_bindO, bindF_pure, bindF_none, bindF_onSum]
  kernel_rfl
theorem spec_BufReplace.ok (N : Nat) : ConOk Try.prog 37 [.one, .one, .one, .one] (spec_BufReplace.con N) := by
  refine conOk_mk (g := spec_BufReplace.cfg N) (N := N) (res := [(false, (.pr (.pr (.own .imm) .imm) (.pr (.own .imm) .imm)))]) tys_ok (spec_BufReplace.cons N) mixed Try.func37 (spec_BufReplace.ls N) rfl rfl ?_
  intro ds R k y h
  cases ds with
  | nil => exact none_some h
  | cons d0 ds =>
  cases ds with
  | nil => exact none_some h
  | cons d1 ds =>
  cases ds with
  | nil => exact none_some h
  | cons d2 ds =>
  cases ds with
  | nil => exact none_some h
  | cons d3 ds =>
  cases ds with
  | cons _ _ => exact none_some h
  | nil =>
  have h0 : (castDm (.pair (.sl 2 (.int .i64)) (.pair (.int .i64) (.pair (.int .i64) .unit))) .imm d0 fun x0 => castDm (.int .i64) .imm d1 fun x1 => castDm (.int .i64) .imm d2 fun x2 => castDm (.sl 2 (.int .i64)) .imm d3 fun x3 => bindO (spec_BufReplace N x0 x1 x2 x3) fun r => k [⟨(.pair (.pair (.sl 2 (.int .i64)) (.pair (.int .i64) (.pair (.int .i64) .unit))) (.pair (.sl 2 (.int .i64)) (.pair (.int .i64) .unit))), (.pr (.pr (.own .imm) .imm) (.pr (.own .imm) .imm)), r⟩] []) = some y := h
  clear h
  obtain ⟨x0, rfl, h1⟩ := castDm_eq h0
  obtain ⟨x1, rfl, h2⟩ := castDm_eq h1
  obtain ⟨x2, rfl, h3⟩ := castDm_eq h2
  obtain ⟨x3, rfl, h4⟩ := castDm_eq h3
  exact con_fin (spec_BufReplace.b N x0 x1 x2 x3) h4
theorem spec_BufReplace.det (N : Nat) : ConDet (spec_BufReplace.con N) := by
  intro ds R k y h
  cases ds with
  | nil => exact none_some h
  | cons d0 ds =>
  cases ds with
  | nil => exact none_some h
  | cons d1 ds =>
  cases ds with
  | nil => exact none_some h
  | cons d2 ds =>
  cases ds with
  | nil => exact none_some h
  | cons d3 ds =>
  cases ds with
  | cons _ _ => exact none_some h
  | nil =>
  have h0 : (castDm (.pair (.sl 2 (.int .i64)) (.pair (.int .i64) (.pair (.int .i64) .unit))) .imm d0 fun x0 => castDm (.int .i64) .imm d1 fun x1 => castDm (.int .i64) .imm d2 fun x2 => castDm (.sl 2 (.int .i64)) .imm d3 fun x3 => bindO (spec_BufReplace N x0 x1 x2 x3) fun r => k [⟨(.pair (.pair (.sl 2 (.int .i64)) (.pair (.int .i64) (.pair (.int .i64) .unit))) (.pair (.sl 2 (.int .i64)) (.pair (.int .i64) .unit))), (.pr (.pr (.own .imm) .imm) (.pr (.own .imm) .imm)), r⟩] []) = some y := h
  clear h
  obtain ⟨x0, rfl, h1⟩ := castDm_eq h0
  obtain ⟨x1, rfl, h2⟩ := castDm_eq h1
  obtain ⟨x2, rfl, h3⟩ := castDm_eq h2
  obtain ⟨x3, rfl, h4⟩ := castDm_eq h3
  obtain ⟨r, e, h⟩ := bindO_some h4
  refine ⟨_, _, h, fun k' => ?_⟩
  show (castDm (.pair (.sl 2 (.int .i64)) (.pair (.int .i64) (.pair (.int .i64) .unit))) .imm (⟨(.pair (.sl 2 (.int .i64)) (.pair (.int .i64) (.pair (.int .i64) .unit))), .imm, x0⟩ : Dy) fun x0 => castDm (.int .i64) .imm (⟨(.int .i64), .imm, x1⟩ : Dy) fun x1 => castDm (.int .i64) .imm (⟨(.int .i64), .imm, x2⟩ : Dy) fun x2 => castDm (.sl 2 (.int .i64)) .imm (⟨(.sl 2 (.int .i64)), .imm, x3⟩ : Dy) fun x3 => bindO (spec_BufReplace N x0 x1 x2 x3) fun r => k' [⟨(.pair (.pair (.sl 2 (.int .i64)) (.pair (.int .i64) (.pair (.int .i64) .unit))) (.pair (.sl 2 (.int .i64)) (.pair (.int .i64) .unit))), (.pr (.pr (.own .imm) .imm) (.pr (.own .imm) .imm)), r⟩] []) = _
  simp only [castDm_self]
  rw [e]
  rfl
noncomputable def spec_BufInsert.con (N : Nat) : Con := { modes := [.v, .v], ptrs := [false], fn := fun ds k => match ds with | [d0, d1] => castDm (.pair (.sl 2 (.int .i64)) (.pair (.int .i64) (.pair (.int .i64) .unit))) .imm d0 fun x0 => castDm (.sl 2 (.int .i64)) .imm d1 fun x1 => bindO (spec_BufInsert N x0 x1) fun r => k [⟨(.pair (.pair (.sl 2 (.int .i64)) (.pair (.int .i64) (.pair (.int .i64) .unit))) (.pair (.sl 2 (.int .i64)) (.pair (.int .i64) .unit))), (.pr (.pr (.own .imm) .imm) (.pr (.own .imm) .imm)), r⟩] [] | _ => none }
noncomputable def spec_BufInsert.cfg (N : Nat) : Cfg := { ty := tys, keep := [11], flt := [], elm := [(22, (.own .imm)), (23, (.own .imm)), (24, (.pr (.own .imm) .imm)), (25, (.pr (.own .imm) .imm)), (26, (.own (.own .imm))), (29, (.own (.pr (.own .imm) .imm))), (30, (.pr (.own (.pr (.own .imm) .imm)) (.pr (.own (.pr (.own .imm) .imm)) .imm))), (31, (.pr (.own (.pr (.own .imm) .imm)) (.pr (.own (.pr (.own .imm) .imm)) .imm))), (32, (.pr (.pr (.own (.pr (.own .imm) .imm)) (.pr (.own (.pr (.own .imm) .imm)) .imm)) (.pr (.pr (.own .imm) .imm) .imm))), (33, (.pr (.pr (.own (.pr (.own .imm) .imm)) (.pr (.own (.pr (.own .imm) .imm)) .imm)) (.pr (.pr (.own .imm) .imm) .imm))), (44, (.pr (.own .imm) .imm)), (45, (.pr (.own .imm) .imm)), (52, (.pr (.pr (.own .imm) .imm) (.pr (.own .imm) .imm))), (53, (.pr (.pr (.own .imm) .imm) (.pr (.own .imm) .imm)))], live := [], ord := [], con := [((37, [.one, .one, .one, .one]), spec_BufReplace.con N)], loops := [], joins := [] }
theorem spec_BufInsert.cons (N : Nat) : ConsOk Try.prog (spec_BufInsert.cfg N).con := (consOk_cons (hb37) (spec_BufReplace.ok N) (spec_BufReplace.det N) consOk_nil)
theorem spec_BufInsert.ls (N : Nat) : LoopsOk Try.prog (spec_BufInsert.cfg N) (fnBody Try.f19) := loopsL (l := []) (by kernel_rfl) trivial
theorem spec_BufInsert.b (N : Nat) (x0 : den (.pair (.sl 2 (.int .i64)) (.pair (.int .i64) (.pair (.int .i64) .unit)))) (x1 : den (.sl 2 (.int .i64))) : body (spec_BufInsert.cfg N) N Try.f19 [.one, .one] [.v, .v] [(false, (.pr (.pr (.own .imm) .imm) (.pr (.own .imm) .imm)))] [⟨(.pair (.sl 2 (.int .i64)) (.pair (.int .i64) (.pair (.int .i64) .unit))), .imm, x0⟩, ⟨(.sl 2 (.int .i64)), .imm, x1⟩] (fun r i => some (r, i)) = bindO (spec_BufInsert N x0 x1) fun r => some ([⟨(.pair (.pair (.sl 2 (.int .i64)) (.pair (.int .i64) (.pair (.int .i64) .unit))) (.pair (.sl 2 (.int .i64)) (.pair (.int .i64) .unit))), (.pr (.pr (.own .imm) .imm) (.pr (.own .imm) .imm)), r⟩], []) := by
  show _ = bindF _ _
  conv => rhs; simp only [spec_BufInsert, bindF_ifB, bindF_bindO, bindF_pure, bindF_none, bindF_onSum]
  kernel_rfl
theorem spec_BufInsert.ok (N : Nat) : ConOk Try.prog 19 [.one, .one] (spec_BufInsert.con N) := by
  refine conOk_mk (g := spec_BufInsert.cfg N) (N := N) (res := [(false, (.pr (.pr (.own .imm) .imm) (.pr (.own .imm) .imm)))]) tys_ok (spec_BufInsert.cons N) mixed Try.func19 (spec_BufInsert.ls N) rfl rfl ?_
  intro ds R k y h
  cases ds with
  | nil => exact none_some h
  | cons d0 ds =>
  cases ds with
  | nil => exact none_some h
  | cons d1 ds =>
  cases ds with
  | cons _ _ => exact none_some h
  | nil =>
  have h0 : (castDm (.pair (.sl 2 (.int .i64)) (.pair (.int .i64) (.pair (.int .i64) .unit))) .imm d0 fun x0 => castDm (.sl 2 (.int .i64)) .imm d1 fun x1 => bindO (spec_BufInsert N x0 x1) fun r => k [⟨(.pair (.pair (.sl 2 (.int .i64)) (.pair (.int .i64) (.pair (.int .i64) .unit))) (.pair (.sl 2 (.int .i64)) (.pair (.int .i64) .unit))), (.pr (.pr (.own .imm) .imm) (.pr (.own .imm) .imm)), r⟩] []) = some y := h
  clear h
  obtain ⟨x0, rfl, h1⟩ := castDm_eq h0
  obtain ⟨x1, rfl, h2⟩ := castDm_eq h1
  exact con_fin (spec_BufInsert.b N x0 x1) h2
theorem spec_BufInsert.det (N : Nat) : ConDet (spec_BufInsert.con N) := by
  intro ds R k y h
  cases ds with
  | nil => exact none_some h
  | cons d0 ds =>
  cases ds with
  | nil => exact none_some h
  | cons d1 ds =>
  cases ds with
  | cons _ _ => exact none_some h
  | nil =>
  have h0 : (castDm (.pair (.sl 2 (.int .i64)) (.pair (.int .i64) (.pair (.int .i64) .unit))) .imm d0 fun x0 => castDm (.sl 2 (.int .i64)) .imm d1 fun x1 => bindO (spec_BufInsert N x0 x1) fun r => k [⟨(.pair (.pair (.sl 2 (.int .i64)) (.pair (.int .i64) (.pair (.int .i64) .unit))) (.pair (.sl 2 (.int .i64)) (.pair (.int .i64) .unit))), (.pr (.pr (.own .imm) .imm) (.pr (.own .imm) .imm)), r⟩] []) = some y := h
  clear h
  obtain ⟨x0, rfl, h1⟩ := castDm_eq h0
  obtain ⟨x1, rfl, h2⟩ := castDm_eq h1
  obtain ⟨r, e, h⟩ := bindO_some h2
  refine ⟨_, _, h, fun k' => ?_⟩
  show (castDm (.pair (.sl 2 (.int .i64)) (.pair (.int .i64) (.pair (.int .i64) .unit))) .imm (⟨(.pair (.sl 2 (.int .i64)) (.pair (.int .i64) (.pair (.int .i64) .unit))), .imm, x0⟩ : Dy) fun x0 => castDm (.sl 2 (.int .i64)) .imm (⟨(.sl 2 (.int .i64)), .imm, x1⟩ : Dy) fun x1 => bindO (spec_BufInsert N x0 x1) fun r => k' [⟨(.pair (.pair (.sl 2 (.int .i64)) (.pair (.int .i64) (.pair (.int .i64) .unit))) (.pair (.sl 2 (.int .i64)) (.pair (.int .i64) .unit))), (.pr (.pr (.own .imm) .imm) (.pr (.own .imm) .imm)), r⟩] []) = _
  simp only [castDm_self]
  rw [e]
  rfl
noncomputable def spec_l05Copy.con (N : Nat) : Con := { modes := [.v], ptrs := [false], fn := fun ds k => match ds with | [d0] => castDm (.pair (.sl 25 (.pair (.sl 2 (.int .i64)) (.pair (.int .i64) (.pair (.int .i64) .unit)))) (.pair (.sl 25 (.pair (.sl 2 (.int .i64)) (.pair (.int .i64) (.pair (.int .i64) .unit)))) .unit)) .imm d0 fun x0 => bindO (spec_l05Copy N x0) fun r => k [⟨(.pair (.sl 25 (.pair (.sl 2 (.int .i64)) (.pair (.int .i64) (.pair (.int .i64) .unit)))) (.pair (.sl 25 (.pair (.sl 2 (.int .i64)) (.pair (.int .i64) (.pair (.int .i64) .unit)))) .unit)), (.pr (.own (.pr (.own .imm) .imm)) (.pr (.own (.pr (.own .imm) .imm)) .imm)), r⟩] [] | _ => none }
noncomputable def spec_l05Copy.cfg (N : Nat) : Cfg := { ty := tys, keep := [5, 8], flt := [], elm := [(22, (.own .imm)), (23, (.own .imm)), (24, (.pr (.own .imm) .imm)), (25, (.pr (.own .imm) .imm)), (26, (.own (.own .imm))), (29, (.own (.pr (.own .imm) .imm))), (30, (.pr (.own (.pr (.own .imm) .imm)) (.pr (.own (.pr (.own .imm) .imm)) .imm))), (31, (.pr (.own (.pr (.own .imm) .imm)) (.pr (.own (.pr (.own .imm) .imm)) .imm))), (32, (.pr (.pr (.own (.pr (.own .imm) .imm)) (.pr (.own (.pr (.own .imm) .imm)) .imm)) (.pr (.pr (.own .imm) .imm) .imm))), (33, (.pr (.pr (.own (.pr (.own .imm) .imm)) (.pr (.own (.pr (.own .imm) .imm)) .imm)) (.pr (.pr (.own .imm) .imm) .imm))), (44, (.pr (.own .imm) .imm)), (45, (.pr (.own .imm) .imm)), (52, (.pr (.pr (.own .imm) .imm) (.pr (.own .imm) .imm))), (53, (.pr (.pr (.own .imm) .imm) (.pr (.own .imm) .imm)))], live := [], ord := [(1, [0, 1, 3, 4, 2, 5, 6, 7])], con := [((35, [.one]), spec_l05CopyBufs.con N)], loops := [], joins := [] }
theorem spec_l05Copy.cons (N : Nat) : ConsOk Try.prog (spec_l05Copy.cfg N).con := (consOk_cons (hb35) (spec_l05CopyBufs.ok N) (spec_l05CopyBufs.det N) consOk_nil)
theorem spec_l05Copy.ls (N : Nat) : LoopsOk Try.prog (spec_l05Copy.cfg N) (fnBody Try.f38) := loopsL (l := []) (by kernel_rfl) trivial
theorem spec_l05Copy.b (N : Nat) (x0 : den (.pair (.sl 25 (.pair (.sl 2 (.int .i64)) (.pair (.int .i64) (.pair (.int .i64) .unit)))) (.pair (.sl 25 (.pair (.sl 2 (.int .i64)) (.pair (.int .i64) (.pair (.int .i64) .unit)))) .unit))) : body (spec_l05Copy.cfg N) N Try.f38 [.one] [.v] [(false, (.pr (.own (.pr (.own .imm) .imm)) (.pr (.own (.pr (.own .imm) .imm)) .imm)))] [⟨(.pair (.sl 25 (.pair (.sl 2 (.int .i64)) (.pair (.int .i64) (.pair (.int .i64) .unit)))) (.pair (.sl 25 (.pair (.sl 2 (.int .i64)) (.pair (.int .i64) (.pair (.int .i64) .unit)))) .unit)), .imm, x0⟩] (fun r i => some (r, i)) = bindO (spec_l05Copy N x0) fun r => some ([⟨(.pair (.sl 25 (.pair (.sl 2 (.int .i64)) (.pair (.int .i64) (.pair (.int .i64) .unit)))) (.pair (.sl 25 (.pair (.sl 2 (.int .i64)) (.pair (.int .i64) (.pair (.int .i64) .unit)))) .unit)), (.pr (.own (.pr (.own .imm) .imm)) (.pr (.own (.pr (.own .imm) .imm)) .imm)), r⟩], []) := by
  show _ = bindF _ _
  conv => rhs; simp only [spec_l05Copy, bindF_ifB, bindF_bindO, bindF_pure, bindF_none, bindF_onSum]
  kernel_rfl
theorem spec_l05Copy.ok (N : Nat) : ConOk Try.prog 38 [.one] (spec_l05Copy.con N) := by
  refine conOk_mk (g := spec_l05Copy.cfg N) (N := N) (res := [(false, (.pr (.own (.pr (.own .imm) .imm)) (.pr (.own (.pr (.own .imm) .imm)) .imm)))]) tys_ok (spec_l05Copy.cons N) mixed Try.func38 (spec_l05Copy.ls N) rfl rfl ?_
  intro ds R k y h
  cases ds with
  | nil => exact none_some h
  | cons d0 ds =>
  cases ds with
  | cons _ _ => exact none_some h
  | nil =>
  have h0 : (castDm (.pair (.sl 25 (.pair (.sl 2 (.int .i64)) (.pair (.int .i64) (.pair (.int .i64) .unit)))) (.pair (.sl 25 (.pair (.sl 2 (.int .i64)) (.pair (.int .i64) (.pair (.int .i64) .unit)))) .unit)) .imm d0 fun x0 => bindO (spec_l05Copy N x0) fun r => k [⟨(.pair (.sl 25 (.pair (.sl 2 (.int .i64)) (.pair (.int .i64) (.pair (.int .i64) .unit)))) (.pair (.sl 25 (.pair (.sl 2 (.int .i64)) (.pair (.int .i64) (.pair (.int .i64) .unit)))) .unit)), (.pr (.own (.pr (.own .imm) .imm)) (.pr (.own (.pr (.own .imm) .imm)) .imm)), r⟩] []) = some y := h
  clear h
  obtain ⟨x0, rfl, h1⟩ := castDm_eq h0
  exact con_fin (spec_l05Copy.b N x0) h1
theorem spec_l05Copy.det (N : Nat) : ConDet (spec_l05Copy.con N) := by
  intro ds R k y h
  cases ds with
  | nil => exact none_some h
  | cons d0 ds =>
  cases ds with
  | cons _ _ => exact none_some h
  | nil =>
  have h0 : (castDm (.pair (.sl 25 (.pair (.sl 2 (.int .i64)) (.pair (.int .i64) (.pair (.int .i64) .unit)))) (.pair (.sl 25 (.pair (.sl 2 (.int .i64)) (.pair (.int .i64) (.pair (.int .i64) .unit)))) .unit)) .imm d0 fun x0 => bindO (spec_l05Copy N x0) fun r => k [⟨(.pair (.sl 25 (.pair (.sl 2 (.int .i64)) (.pair (.int .i64) (.pair (.int .i64) .unit)))) (.pair (.sl 25 (.pair (.sl 2 (.int .i64)) (.pair (.int .i64) (.pair (.int .i64) .unit)))) .unit)), (.pr (.own (.pr (.own .imm) .imm)) (.pr (.own (.pr (.own .imm) .imm)) .imm)), r⟩] []) = some y := h
  clear h
  obtain ⟨x0, rfl, h1⟩ := castDm_eq h0
  obtain ⟨r, e, h⟩ := bindO_some h1
  refine ⟨_, _, h, fun k' => ?_⟩
  show (castDm (.pair (.sl 25 (.pair (.sl 2 (.int .i64)) (.pair (.int .i64) (.pair (.int .i64) .unit)))) (.pair (.sl 25 (.pair (.sl 2 (.int .i64)) (.pair (.int .i64) (.pair (.int .i64) .unit)))) .unit)) .imm (⟨(.pair (.sl 25 (.pair (.sl 2 (.int .i64)) (.pair (.int .i64) (.pair (.int .i64) .unit)))) (.pair (.sl 25 (.pair (.sl 2 (.int .i64)) (.pair (.int .i64) (.pair (.int .i64) .unit)))) .unit)), .imm, x0⟩ : Dy) fun x0 => bindO (spec_l05Copy N x0) fun r => k' [⟨(.pair (.sl 25 (.pair (.sl 2 (.int .i64)) (.pair (.int .i64) (.pair (.int .i64) .unit)))) (.pair (.sl 25 (.pair (.sl 2 (.int .i64)) (.pair (.int .i64) (.pair (.int .i64) .unit)))) .unit)), (.pr (.own (.pr (.own .imm) .imm)) (.pr (.own (.pr (.own .imm) .imm)) .imm)), r⟩] []) = _
  simp only [castDm_self]
  rw [e]
  rfl
noncomputable def spec_UndoNote.con (N : Nat) : Con := { modes := [.v, .v], ptrs := [false], fn := fun ds k => match ds with | [d0, d1] => castDm (.pair (.sl 25 (.pair (.sl 2 (.int .i64)) (.pair (.int .i64) (.pair (.int .i64) .unit)))) (.pair (.sl 25 (.pair (.sl 2 (.int .i64)) (.pair (.int .i64) (.pair (.int .i64) .unit)))) .unit)) .imm d0 fun x0 => castDm (.pair (.sl 2 (.int .i64)) (.pair (.int .i64) (.pair (.int .i64) .unit))) .imm d1 fun x1 => bindO (spec_UndoNote N x0 x1) fun r => k [⟨(.pair (.sl 25 (.pair (.sl 2 (.int .i64)) (.pair (.int .i64) (.pair (.int .i64) .unit)))) (.pair (.sl 25 (.pair (.sl 2 (.int .i64)) (.pair (.int .i64) (.pair (.int .i64) .unit)))) .unit)), (.pr (.own (.pr (.own .imm) .imm)) (.pr (.own (.pr (.own .imm) .imm)) .imm)), r⟩] [] | _ => none }
noncomputable def spec_UndoNote.cfg (N : Nat) : Cfg := { ty := tys, keep := [6, 10, 14, 18], flt := [], elm := [(22, (.own .imm)), (23, (.own .imm)), (24, (.pr (.own .imm) .imm)), (25, (.pr (.own .imm) .imm)), (26, (.own (.own .imm))), (29, (.own (.pr (.own .imm) .imm))), (30, (.pr (.own (.pr (.own .imm) .imm)) (.pr (.own (.pr (.own .imm) .imm)) .imm))), (31, (.pr (.own (.pr (.own .imm) .imm)) (.pr (.own (.pr (.own .imm) .imm)) .imm))), (32, (.pr (.pr (.own (.pr (.own .imm) .imm)) (.pr (.own (.pr (.own .imm) .imm)) .imm)) (.pr (.pr (.own .imm) .imm) .imm))), (33, (.pr (.pr (.own (.pr (.own .imm) .imm)) (.pr (.own (.pr (.own .imm) .imm)) .imm)) (.pr (.pr (.own .imm) .imm) .imm))), (44, (.pr (.own .imm) .imm)), (45, (.pr (.own .imm) .imm)), (52, (.pr (.pr (.own .imm) .imm) (.pr (.own .imm) .imm))), (53, (.pr (.pr (.own .imm) .imm) (.pr (.own .imm) .imm)))], live := [], ord := [], con := [((34, [.one]), spec_UndoRight.con N), ((15, [.one]), spec_BufRight.con N), ((38, [.one]), spec_l05Copy.con N), ((36, [.one, .one]), spec_l05Put.con N)], loops := [], joins := [] }
theorem spec_UndoNote.cons (N : Nat) : ConsOk Try.prog (spec_UndoNote.cfg N).con := (consOk_cons (hb34) (spec_UndoRight.ok N) (spec_UndoRight.det N) (consOk_cons (hb15) (spec_BufRight.ok N) (spec_BufRight.det N) (consOk_cons (hb38) (spec_l05Copy.ok N) (spec_l05Copy.det N) (consOk_cons (hb36) (spec_l05Put.ok N) (spec_l05Put.det N) consOk_nil))))
theorem spec_UndoNote.ls (N : Nat) : LoopsOk Try.prog (spec_UndoNote.cfg N) (fnBody Try.f20) := loopsL (l := []) (by kernel_rfl) trivial
theorem spec_UndoNote.b (N : Nat) (x0 : den (.pair (.sl 25 (.pair (.sl 2 (.int .i64)) (.pair (.int .i64) (.pair (.int .i64) .unit)))) (.pair (.sl 25 (.pair (.sl 2 (.int .i64)) (.pair (.int .i64) (.pair (.int .i64) .unit)))) .unit))) (x1 : den (.pair (.sl 2 (.int .i64)) (.pair (.int .i64) (.pair (.int .i64) .unit)))) : body (spec_UndoNote.cfg N) N Try.f20 [.one, .one] [.v, .v] [(false, (.pr (.own (.pr (.own .imm) .imm)) (.pr (.own (.pr (.own .imm) .imm)) .imm)))] [⟨(.pair (.sl 25 (.pair (.sl 2 (.int .i64)) (.pair (.int .i64) (.pair (.int .i64) .unit)))) (.pair (.sl 25 (.pair (.sl 2 (.int .i64)) (.pair (.int .i64) (.pair (.int .i64) .unit)))) .unit)), .imm, x0⟩, ⟨(.pair (.sl 2 (.int .i64)) (.pair (.int .i64) (.pair (.int .i64) .unit))), .imm, x1⟩] (fun r i => some (r, i)) = bindO (spec_UndoNote N x0 x1) fun r => some ([⟨(.pair (.sl 25 (.pair (.sl 2 (.int .i64)) (.pair (.int .i64) (.pair (.int .i64) .unit)))) (.pair (.sl 25 (.pair (.sl 2 (.int .i64)) (.pair (.int .i64) (.pair (.int .i64) .unit)))) .unit)), (.pr (.own (.pr (.own .imm) .imm)) (.pr (.own (.pr (.own .imm) .imm)) .imm)), r⟩], []) := by
  show _ = bindF _ _
  conv => rhs; simp only [spec_UndoNote, bindF_ifB, bindF_bindO, bindF_pure, bindF_none, bindF_onSum]
  kernel_rfl
theorem spec_UndoNote.ok (N : Nat) : ConOk Try.prog 20 [.one, .one] (spec_UndoNote.con N) := by
  refine conOk_mk (g := spec_UndoNote.cfg N) (N := N) (res := [(false, (.pr (.own (.pr (.own .imm) .imm)) (.pr (.own (.pr (.own .imm) .imm)) .imm)))]) tys_ok (spec_UndoNote.cons N) mixed Try.func20 (spec_UndoNote.ls N) rfl rfl ?_
  intro ds R k y h
  cases ds with
  | nil => exact none_some h
  | cons d0 ds =>
  cases ds with
  | nil => exact none_some h
  | cons d1 ds =>
  cases ds with
  | cons _ _ => exact none_some h
  | nil =>
  have h0 : (castDm (.pair (.sl 25 (.pair (.sl 2 (.int .i64)) (.pair (.int .i64) (.pair (.int .i64) .unit)))) (.pair (.sl 25 (.pair (.sl 2 (.int .i64)) (.pair (.int .i64) (.pair (.int .i64) .unit)))) .unit)) .imm d0 fun x0 => castDm (.pair (.sl 2 (.int .i64)) (.pair (.int .i64) (.pair (.int .i64) .unit))) .imm d1 fun x1 => bindO (spec_UndoNote N x0 x1) fun r => k [⟨(.pair (.sl 25 (.pair (.sl 2 (.int .i64)) (.pair (.int .i64) (.pair (.int .i64) .unit)))) (.pair (.sl 25 (.pair (.sl 2 (.int .i64)) (.pair (.int .i64) (.pair (.int .i64) .unit)))) .unit)), (.pr (.own (.pr (.own .imm) .imm)) (.pr (.own (.pr (.own .imm) .imm)) .imm)), r⟩] []) = some y := h
  clear h
  obtain ⟨x0, rfl, h1⟩ := castDm_eq h0
  obtain ⟨x1, rfl, h2⟩ := castDm_eq h1
  exact con_fin (spec_UndoNote.b N x0 x1) h2
theorem spec_UndoNote.det (N : Nat) : ConDet (spec_UndoNote.con N) := by
  intro ds R k y h
  cases ds with
  | nil => exact none_some h
  | cons d0 ds =>
  cases ds with
  | nil => exact none_some h
  | cons d1 ds =>
  cases ds with
  | cons _ _ => exact none_some h
  | nil =>
  have h0 : (castDm (.pair (.sl 25 (.pair (.sl 2 (.int .i64)) (.pair (.int .i64) (.pair (.int .i64) .unit)))) (.pair (.sl 25 (.pair (.sl 2 (.int .i64)) (.pair (.int .i64) (.pair (.int .i64) .unit)))) .unit)) .imm d0 fun x0 => castDm (.pair (.sl 2 (.int .i64)) (.pair (.int .i64) (.pair (.int .i64) .unit))) .imm d1 fun x1 => bindO (spec_UndoNote N x0 x1) fun r => k [⟨(.pair (.sl 25 (.pair (.sl 2 (.int .i64)) (.pair (.int .i64) (.pair (.int .i64) .unit)))) (.pair (.sl 25 (.pair (.sl 2 (.int .i64)) (.pair (.int .i64) (.pair (.int .i64) .unit)))) .unit)), (.pr (.own (.pr (.own .imm) .imm)) (.pr (.own (.pr (.own .imm) .imm)) .imm)), r⟩] []) = some y := h
  clear h
  obtain ⟨x0, rfl, h1⟩ := castDm_eq h0
  obtain ⟨x1, rfl, h2⟩ := castDm_eq h1
  obtain ⟨r, e, h⟩ := bindO_some h2
  refine ⟨_, _, h, fun k' => ?_⟩
  show (castDm (.pair (.sl 25 (.pair (.sl 2 (.int .i64)) (.pair (.int .i64) (.pair (.int .i64) .unit)))) (.pair (.sl 25 (.pair (.sl 2 (.int .i64)) (.pair (.int .i64) (.pair (.int .i64) .unit)))) .unit)) .imm (⟨(.pair (.sl 25 (.pair (.sl 2 (.int .i64)) (.pair (.int .i64) (.pair (.int .i64) .unit)))) (.pair (.sl 25 (.pair (.sl 2 (.int .i64)) (.pair (.int .i64) (.pair (.int .i64) .unit)))) .unit)), .imm, x0⟩ : Dy) fun x0 => castDm (.pair (.sl 2 (.int .i64)) (.pair (.int .i64) (.pair (.int .i64) .unit))) .imm (⟨(.pair (.sl 2 (.int .i64)) (.pair (.int .i64) (.pair (.int .i64) .unit))), .imm, x1⟩ : Dy) fun x1 => bindO (spec_UndoNote N x0 x1) fun r => k' [⟨(.pair (.sl 25 (.pair (.sl 2 (.int .i64)) (.pair (.int .i64) (.pair (.int .i64) .unit)))) (.pair (.sl 25 (.pair (.sl 2 (.int .i64)) (.pair (.int .i64) (.pair (.int .i64) .unit)))) .unit)), (.pr (.own (.pr (.own .imm) .imm)) (.pr (.own (.pr (.own .imm) .imm)) .imm)), r⟩] []) = _
  simp only [castDm_self]
  rw [e]
  rfl
def spec_UndoRun.sk6 : Skel := ⟨[.dead, .pv (.sl 23 (.sl 2 (.int .i64))), .ptr 50 [], .dead, .ptr 51 [], .pv (.int .i64), .dead, .dead, .dead, .dead, .dead, .dead, .dead, .dead, .dead, .dead, .dead, .dead, .dead, .dead, .dead, .dead, .dead, .dead, .dead, .dead, .dead, .dead, .dead, .dead, .dead, .dead, .dead, .dead, .dead, .dead, .dead, .dead, .dead, .dead, .dead, .dead, .dead, .dead, .dead, .dead, .dead, .dead, .dead, .dead, .dead, .dead, .dead, .dead, .dead, .dead, .dead, .dead, .dead, .dead, .dead, .dead, .dead, .dead, .dead, .dead, .dead, .dead, .dead, .dead, .dead, .dead, .dead, .dead, .dead], [⟨50, (.pair (.sl 2 (.int .i64)) (.pair (.int .i64) (.pair (.int .i64) .unit))), .imm, true, false⟩, ⟨51, (.pair (.pair (.sl 25 (.pair (.sl 2 (.int .i64)) (.pair (.int .i64) (.pair (.int .i64) .unit)))) (.pair (.sl 25 (.pair (.sl 2 (.int .i64)) (.pair (.int .i64) (.pair (.int .i64) .unit)))) .unit)) (.pair (.pair (.sl 2 (.int .i64)) (.pair (.int .i64) (.pair (.int .i64) .unit))) (.pair (.int .i64) .unit))), (.pr (.pr (.own (.pr (.own .imm) .imm)) (.pr (.own (.pr (.own .imm) .imm)) .imm)) (.pr (.pr (.own .imm) .imm) .imm)), true, false⟩]⟩
def spec_UndoRun.xs6 : List XS := [⟨.exit 0, [1, 2, 4], ⟨[.dead, .pv (.sl 23 (.sl 2 (.int .i64))), .ptr 50 [], .dead, .ptr 51 [], .dead, .dead, .dead, .dead, .dead, .dead, .dead, .dead, .dead, .dead, .dead, .dead, .dead, .dead, .dead, .dead, .dead, .dead, .dead, .dead, .dead, .dead, .dead, .dead, .dead, .dead, .dead, .dead, .dead, .dead, .dead, .dead, .dead, .dead, .dead, .dead, .dead, .dead, .dead, .dead, .dead, .dead, .dead, .dead, .dead, .dead, .dead, .dead, .dead, .dead, .dead, .dead, .dead, .dead, .dead, .dead, .dead, .dead, .dead, .dead, .dead, .dead, .dead, .dead, .dead, .dead, .dead, .dead, .dead, .dead], [⟨50, (.pair (.sl 2 (.int .i64)) (.pair (.int .i64) (.pair (.int .i64) .unit))), .imm, true, false⟩, ⟨51, (.pair (.pair (.sl 25 (.pair (.sl 2 (.int .i64)) (.pair (.int .i64) (.pair (.int .i64) .unit)))) (.pair (.sl 25 (.pair (.sl 2 (.int .i64)) (.pair (.int .i64) (.pair (.int .i64) .unit)))) .unit)) (.pair (.pair (.sl 2 (.int .i64)) (.pair (.int .i64) (.pair (.int .i64) .unit))) (.pair (.int .i64) .unit))), (.pr (.pr (.own (.pr (.own .imm) .imm)) (.pr (.own (.pr (.own .imm) .imm)) .imm)) (.pr (.pr (.own .imm) .imm) .imm)), true, false⟩]⟩⟩, ⟨.ret, [4], ⟨[.dead, .dead, .dead, .dead, .ptr 50 [], .dead, .dead, .dead, .dead, .dead, .dead, .dead, .dead, .dead, .dead, .dead, .dead, .dead, .dead, .dead, .dead, .dead, .dead, .dead, .dead, .dead, .dead, .dead, .dead, .dead, .dead, .dead, .dead, .dead, .dead, .dead, .dead, .dead, .dead, .dead, .dead, .dead, .dead, .dead, .dead, .dead, .dead, .dead, .dead, .dead, .dead, .dead, .dead, .dead, .dead, .dead, .dead, .dead, .dead, .dead, .dead, .dead, .dead, .dead, .dead, .dead, .dead, .dead, .dead, .dead, .dead, .dead, .dead, .dead, .dead], [⟨50, (.pair (.pair (.sl 25 (.pair (.sl 2 (.int .i64)) (.pair (.int .i64) (.pair (.int .i64) .unit)))) (.pair (.sl 25 (.pair (.sl 2 (.int .i64)) (.pair (.int .i64) (.pair (.int .i64) .unit)))) .unit)) (.pair (.pair (.sl 2 (.int .i64)) (.pair (.int .i64) (.pair (.int .i64) .unit))) (.pair (.int .i64) .unit))), (.pr (.pr (.own (.pr (.own .imm) .imm)) (.pr (.own (.pr (.own .imm) .imm)) .imm)) (.pr (.pr (.own .imm) .imm) .imm)), true, false⟩]⟩⟩]
def spec_UndoRun.sk12 : Skel := ⟨[.dead, .pv (.sl 23 (.sl 2 (.int .i64))), .dead, .dead, .ptr 50 [], .dead, .ptr 51 [], .pv (.int .i64), .dead, .dead, .dead, .dead, .dead, .dead, .dead, .dead, .dead, .dead, .dead, .dead, .dead, .dead, .dead, .dead, .dead, .dead, .dead, .dead, .dead, .dead, .dead, .dead, .dead, .dead, .dead, .dead, .dead, .dead, .dead, .dead, .dead, .dead, .dead, .dead, .dead, .dead, .dead, .dead, .dead, .dead, .dead, .dead, .dead, .dead, .dead, .dead, .dead, .dead, .dead, .dead, .dead, .dead, .dead, .dead, .dead, .dead, .dead, .dead, .dead, .dead, .dead, .dead, .dead, .dead, .dead], [⟨50, (.pair (.pair (.sl 25 (.pair (.sl 2 (.int .i64)) (.pair (.int .i64) (.pair (.int .i64) .unit)))) (.pair (.sl 25 (.pair (.sl 2 (.int .i64)) (.pair (.int .i64) (.pair (.int .i64) .unit)))) .unit)) (.pair (.pair (.sl 2 (.int .i64)) (.pair (.int .i64) (.pair (.int .i64) .unit))) (.pair (.int .i64) .unit))), (.pr (.pr (.own (.pr (.own .imm) .imm)) (.pr (.own (.pr (.own .imm) .imm)) .imm)) (.pr (.pr (.own .imm) .imm) .imm)), true, false⟩, ⟨51, (.pair (.pair (.sl 25 (.pair (.sl 2 (.int .i64)) (.pair (.int .i64) (.pair (.int .i64) .unit)))) (.pair (.sl 25 (.pair (.sl 2 (.int .i64)) (.pair (.int .i64) (.pair (.int .i64) .unit)))) .unit)) (.pair (.pair (.sl 2 (.int .i64)) (.pair (.int .i64) (.pair (.int .i64) .unit))) (.pair (.int .i64) .unit))), (.pr (.pr (.own (.pr (.own .imm) .imm)) (.pr (.own (.pr (.own .imm) .imm)) .imm)) (.pr (.pr (.own .imm) .imm) .imm)), true, false⟩]⟩
def spec_UndoRun.xs12 : List XS := [⟨.exit 2, [4, 6], ⟨[.dead, .dead, .dead, .dead, .ptr 50 [], .dead, .ptr 51 [], .dead, .dead, .dead, .dead, .dead, .dead, .dead, .dead, .dead, .dead, .dead, .dead, .dead, .dead, .dead, .dead, .dead, .dead, .dead, .dead, .dead, .dead, .dead, .dead, .dead, .dead, .dead, .dead, .dead, .dead, .dead, .dead, .dead, .dead, .dead, .dead, .dead, .dead, .dead, .dead, .dead, .dead, .dead, .dead, .dead, .dead, .dead, .dead, .dead, .dead, .dead, .dead, .dead, .dead, .dead, .dead, .dead, .dead, .dead, .dead, .dead, .dead, .dead, .dead, .dead, .dead, .dead, .dead], [⟨50, (.pair (.pair (.sl 25 (.pair (.sl 2 (.int .i64)) (.pair (.int .i64) (.pair (.int .i64) .unit)))) (.pair (.sl 25 (.pair (.sl 2 (.int .i64)) (.pair (.int .i64) (.pair (.int .i64) .unit)))) .unit)) (.pair (.pair (.sl 2 (.int .i64)) (.pair (.int .i64) (.pair (.int .i64) .unit))) (.pair (.int .i64) .unit))), (.pr (.pr (.own (.pr (.own .imm) .imm)) (.pr (.own (.pr (.own .imm) .imm)) .imm)) (.pr (.pr (.own .imm) .imm) .imm)), true, false⟩, ⟨51, (.pair (.pair (.sl 25 (.pair (.sl 2 (.int .i64)) (.pair (.int .i64) (.pair (.int .i64) .unit)))) (.pair (.sl 25 (.pair (.sl 2 (.int .i64)) (.pair (.int .i64) (.pair (.int .i64) .unit)))) .unit)) (.pair (.pair (.sl 2 (.int .i64)) (.pair (.int .i64) (.pair (.int .i64) .unit))) (.pair (.int .i64) .unit))), (.pr (.pr (.own (.pr (.own .imm) .imm)) (.pr (.own (.pr (.own .imm) .imm)) .imm)) (.pr (.pr (.own .imm) .imm) .imm)), true, false⟩]⟩⟩]
noncomputable def spec_UndoRun.con (N : Nat) : Con := { modes := [.v, .v], ptrs := [false], fn := fun ds k => match ds with | [d0, d1] => castDm (.pair (.sl 2 (.int .i64)) (.pair (.int .i64) (.pair (.int .i64) .unit))) .imm d0 fun x0 => castDm (.sl 23 (.sl 2 (.int .i64))) .imm d1 fun x1 => bindO (spec_UndoRun N x0 x1) fun r => k [⟨(.pair (.pair (.sl 25 (.pair (.sl 2 (.int .i64)) (.pair (.int .i64) (.pair (.int .i64) .unit)))) (.pair (.sl 25 (.pair (.sl 2 (.int .i64)) (.pair (.int .i64) (.pair (.int .i64) .unit)))) .unit)) (.pair (.pair (.sl 2 (.int .i64)) (.pair (.int .i64) (.pair (.int .i64) .unit))) (.pair (.int .i64) .unit))), (.pr (.pr (.own (.pr (.own .imm) .imm)) (.pr (.own (.pr (.own .imm) .imm)) .imm)) (.pr (.pr (.own .imm) .imm) .imm)), r⟩] [] | _ => none }
noncomputable def spec_UndoRun.cfg (N : Nat) : Cfg := { ty := tys, keep := [15, 28, 32, 50, 61, 69], flt := [], elm := [(22, (.own .imm)), (23, (.own .imm)), (24, (.pr (.own .imm) .imm)), (25, (.pr (.own .imm) .imm)), (26, (.own (.own .imm))), (29, (.own (.pr (.own .imm) .imm))), (30, (.pr (.own (.pr (.own .imm) .imm)) (.pr (.own (.pr (.own .imm) .imm)) .imm))), (31, (.pr (.own (.pr (.own .imm) .imm)) (.pr (.own (.pr (.own .imm) .imm)) .imm))), (32, (.pr (.pr (.own (.pr (.own .imm) .imm)) (.pr (.own (.pr (.own .imm) .imm)) .imm)) (.pr (.pr (.own .imm) .imm) .imm))), (33, (.pr (.pr (.own (.pr (.own .imm) .imm)) (.pr (.own (.pr (.own .imm) .imm)) .imm)) (.pr (.pr (.own .imm) .imm) .imm))), (44, (.pr (.own .imm) .imm)), (45, (.pr (.own .imm) .imm)), (52, (.pr (.pr (.own .imm) .imm) (.pr (.own .imm) .imm))), (53, (.pr (.pr (.own .imm) .imm) (.pr (.own .imm) .imm)))], live := [(12, [1, 4, 6, 7]), (6, [1, 2, 4, 5])], ord := [(18, [7, 0, 1, 2, 3, 4, 5, 6, 8])], con := [((15, [.one]), spec_BufRight.con N), ((16, [.one]), spec_PointsRight.con N), ((17, [.one]), spec_l02Copy.con N), ((18, [.one, .one]), spec_UndoBack.con N), ((19, [.one, .one]), spec_BufInsert.con N), ((20, [.one, .one]), spec_UndoNote.con N)], loops := [(6, loopCon N spec_UndoRun.sk6 spec_UndoRun.xs6 (fun {R} => spec_UndoRun.l6 (R := R) N)), (12, loopCon N spec_UndoRun.sk12 spec_UndoRun.xs12 (fun {R} => spec_UndoRun.l12 (R := R) N))], joins := [(13, [⟨.normal, [1, 4, 6, 7], ⟨[.dead, .pv (.sl 23 (.sl 2 (.int .i64))), .dead, .dead, .ptr 50 [], .dead, .ptr 51 [], .pv (.int .i64), .dead, .dead, .dead, .dead, .dead, .dead, .dead, .dead, .dead, .dead, .dead, .dead, .dead, .dead, .dead, .dead, .dead, .dead, .dead, .dead, .dead, .dead, .dead, .dead, .dead, .dead, .dead, .dead, .dead, .dead, .dead, .dead, .dead, .dead, .dead, .dead, .dead, .dead, .dead, .dead, .dead, .dead, .dead, .dead, .dead, .dead, .dead, .dead, .dead, .dead, .dead, .dead, .dead, .dead, .dead, .dead, .dead, .dead, .dead, .dead, .dead, .dead, .dead, .dead, .dead, .dead, .dead], [⟨50, (.pair (.pair (.sl 25 (.pair (.sl 2 (.int .i64)) (.pair (.int .i64) (.pair (.int .i64) .unit)))) (.pair (.sl 25 (.pair (.sl 2 (.int .i64)) (.pair (.int .i64) (.pair (.int .i64) .unit)))) .unit)) (.pair (.pair (.sl 2 (.int .i64)) (.pair (.int .i64) (.pair (.int .i64) .unit))) (.pair (.int .i64) .unit))), (.pr (.pr (.own (.pr (.own .imm) .imm)) (.pr (.own (.pr (.own .imm) .imm)) .imm)) (.pr (.pr (.own .imm) .imm) .imm)), true, false⟩, ⟨51, (.pair (.pair (.sl 25 (.pair (.sl 2 (.int .i64)) (.pair (.int .i64) (.pair (.int .i64) .unit)))) (.pair (.sl 25 (.pair (.sl 2 (.int .i64)) (.pair (.int .i64) (.pair (.int .i64) .unit)))) .unit)) (.pair (.pair (.sl 2 (.int .i64)) (.pair (.int .i64) (.pair (.int .i64) .unit))) (.pair (.int .i64) .unit))), (.pr (.pr (.own (.pr (.own .imm) .imm)) (.pr (.own (.pr (.own .imm) .imm)) .imm)) (.pr (.pr (.own .imm) .imm) .imm)), true, false⟩]⟩⟩])] }
theorem spec_UndoRun.cons (N : Nat) : ConsOk Try.prog (spec_UndoRun.cfg N).con := (consOk_cons (hb15) (spec_BufRight.ok N) (spec_BufRight.det N) (consOk_cons (hb16) (spec_PointsRight.ok N) (spec_PointsRight.det N) (consOk_cons (hb17) (spec_l02Copy.ok N) (spec_l02Copy.det N) (consOk_cons (hb18) (spec_UndoBack.ok N) (spec_UndoBack.det N) (consOk_cons (hb19) (spec_BufInsert.ok N) (spec_BufInsert.det N) (consOk_cons (hb20) (spec_UndoNote.ok N) (spec_UndoNote.det N) consOk_nil))))))
theorem spec_UndoRun.h12 {R : Type} (N : Nat) (d : spec_UndoRun.sk12.D) (kn : spec_UndoRun.sk12.D → Option R) (kx : XD spec_UndoRun.xs12 → Option R) : roundK (spec_UndoRun.cfg N) N (nthLoop (fnBody Try.f5) 1) spec_UndoRun.sk12 spec_UndoRun.xs12 d kn kx = spec_UndoRun.l12 N d kn kx := by kernel_rfl
theorem spec_UndoRun.i12 (N : Nat) : LoopsOk Try.prog (spec_UndoRun.cfg N) (nthLoop (fnBody Try.f5) 1) := loopsL (l := []) (by kernel_rfl) trivial
theorem spec_UndoRun.o12 (N : Nat) : LoopOk Try.prog (nthLoop (fnBody Try.f5) 1) (loopCon N spec_UndoRun.sk12 spec_UndoRun.xs12 (fun {R} => spec_UndoRun.l12 (R := R) N)) := loop_ok (g := spec_UndoRun.cfg N) tys_ok (spec_UndoRun.cons N) mixed (spec_UndoRun.i12 N) (fun d kn kx => spec_UndoRun.h12 N d kn kx)
theorem spec_UndoRun.h6 {R : Type} (N : Nat) (d : spec_UndoRun.sk6.D) (kn : spec_UndoRun.sk6.D → Option R) (kx : XD spec_UndoRun.xs6 → Option R) : roundK (spec_UndoRun.cfg N) N (nthLoop (fnBody Try.f5) 0) spec_UndoRun.sk6 spec_UndoRun.xs6 d kn kx = spec_UndoRun.l6 N d kn kx := by kernel_rfl
theorem spec_UndoRun.i6 (N : Nat) : LoopsOk Try.prog (spec_UndoRun.cfg N) (nthLoop (fnBody Try.f5) 0) := loopsL (l := []) (by kernel_rfl) trivial
theorem spec_UndoRun.o6 (N : Nat) : LoopOk Try.prog (nthLoop (fnBody Try.f5) 0) (loopCon N spec_UndoRun.sk6 spec_UndoRun.xs6 (fun {R} => spec_UndoRun.l6 (R := R) N)) := loop_ok (g := spec_UndoRun.cfg N) tys_ok (spec_UndoRun.cons N) mixed (spec_UndoRun.i6 N) (fun d kn kx => spec_UndoRun.h6 N d kn kx)
theorem spec_UndoRun.ls (N : Nat) : LoopsOk Try.prog (spec_UndoRun.cfg N) (fnBody Try.f5) := loopsL (l := [nthLoop (fnBody Try.f5) 0, nthLoop (fnBody Try.f5) 1]) (by kernel_rfl) ⟨loopOne (L0 := loopCon N spec_UndoRun.sk6 spec_UndoRun.xs6 (fun {R} => spec_UndoRun.l6 (R := R) N)) (id := 6) (by kernel_rfl) (by kernel_rfl) (spec_UndoRun.o6 N), ⟨loopOne (L0 := loopCon N spec_UndoRun.sk12 spec_UndoRun.xs12 (fun {R} => spec_UndoRun.l12 (R := R) N)) (id := 12) (by kernel_rfl) (by kernel_rfl) (spec_UndoRun.o12 N), trivial⟩⟩
theorem spec_UndoRun.q12 {R R' : Type} {N n : Nat} {d} {k} {g : R → Option R'} : bindF (loopP (spec_UndoRun.l12 N) n d k) g = loopP (spec_UndoRun.l12 N) n d fun e => bindF (k e) g := bindF_loopP (fun d kn kx => by simp only [spec_UndoRun.l12, bindF_ifB, bindF_bindO, bindF_pure, bindF_none, bindF_onSum]) n d k
theorem spec_UndoRun.q6 {R R' : Type} {N n : Nat} {d} {k} {g : R → Option R'} : bindF (loopP (spec_UndoRun.l6 N) n d k) g = loopP (spec_UndoRun.l6 N) n d fun e => bindF (k e) g := bindF_loopP (fun d kn kx => by simp only [spec_UndoRun.l6, bindF_ifB, bindF_bindO, bindF_pure, bindF_none, bindF_onSum]) n d k
theorem spec_UndoRun.b (N : Nat) (x0 : den (.pair (.sl 2 (.int .i64)) (.pair (.int .i64) (.pair (.int .i64) .unit)))) (x1 : den (.sl 23 (.sl 2 (.int .i64)))) : body (spec_UndoRun.cfg N) N Try.f5 [.one, .one] [.v, .v] [(false, (.pr (.pr (.own (.pr (.own .imm) .imm)) (.pr (.own (.pr (.own .imm) .imm)) .imm)) (.pr (.pr (.own .imm) .imm) .imm)))] [⟨(.pair (.sl 2 (.int .i64)) (.pair (.int .i64) (.pair (.int .i64) .unit))), .imm, x0⟩, ⟨(.sl 23 (.sl 2 (.int .i64))), .imm, x1⟩] (fun r i => some (r, i)) = bindO (spec_UndoRun N x0 x1) fun r => some ([⟨(.pair (.pair (.sl 25 (.pair (.sl 2 (.int .i64)) (.pair (.int .i64) (.pair (.int .i64) .unit)))) (.pair (.sl 25 (.pair (.sl 2 (.int .i64)) (.pair (.int .i64) (.pair (.int .i64) .unit)))) .unit)) (.pair (.pair (.sl 2 (.int .i64)) (.pair (.int .i64) (.pair (.int .i64) .unit))) (.pair (.int .i64) .unit))), (.pr (.pr (.own (.pr (.own .imm) .imm)) (.pr (.own (.pr (.own .imm) .imm)) .imm)) (.pr (.pr (.own .imm) .imm) .imm)), r⟩], []) := by
  show _ = bindF _ _
  conv => rhs; simp only [spec_UndoRun, bindF_ifB, bindF_bindO, bindF_pure, bindF_none, bindF_onSum, spec_UndoRun.q6, spec_UndoRun.q12]
  kernel_rfl
theorem spec_UndoRun.ok (N : Nat) : ConOk Try.prog 5 [.one, .one] (spec_UndoRun.con N) := by
  refine conOk_mk (g := spec_UndoRun.cfg N) (N := N) (res := [(false, (.pr (.pr (.own (.pr (.own .imm) .imm)) (.pr (.own (.pr (.own .imm) .imm)) .imm)) (.pr (.pr (.own .imm) .imm) .imm)))]) tys_ok (spec_UndoRun.cons N) mixed Try.func5 (spec_UndoRun.ls N) rfl rfl ?_
  intro ds R k y h
  cases ds with
  | nil => exact none_some h
  | cons d0 ds =>
  cases ds with
  | nil => exact none_some h
  | cons d1 ds =>
  cases ds with
  | cons _ _ => exact none_some h
  | nil =>
  have h0 : (castDm (.pair (.sl 2 (.int .i64)) (.pair (.int .i64) (.pair (.int .i64) .unit))) .imm d0 fun x0 => castDm (.sl 23 (.sl 2 (.int .i64))) .imm d1 fun x1 => bindO (spec_UndoRun N x0 x1) fun r => k [⟨(.pair (.pair (.sl 25 (.pair (.sl 2 (.int .i64)) (.pair (.int .i64) (.pair (.int .i64) .unit)))) (.pair (.sl 25 (.pair (.sl 2 (.int .i64)) (.pair (.int .i64) (.pair (.int .i64) .unit)))) .unit)) (.pair (.pair (.sl 2 (.int .i64)) (.pair (.int .i64) (.pair (.int .i64) .unit))) (.pair (.int .i64) .unit))), (.pr (.pr (.own (.pr (.own .imm) .imm)) (.pr (.own (.pr (.own .imm) .imm)) .imm)) (.pr (.pr (.own .imm) .imm) .imm)), r⟩] []) = some y := h
  clear h
  obtain ⟨x0, rfl, h1⟩ := castDm_eq h0
  obtain ⟨x1, rfl, h2⟩ := castDm_eq h1
  exact con_fin (spec_UndoRun.b N x0 x1) h2
theorem spec_UndoRun.det (N : Nat) : ConDet (spec_UndoRun.con N) := by
  intro ds R k y h
  cases ds with
  | nil => exact none_some h
  | cons d0 ds =>
  cases ds with
  | nil => exact none_some h
  | cons d1 ds =>
  cases ds with
  | cons _ _ => exact none_some h
  | nil =>
  have h0 : (castDm (.pair (.sl 2 (.int .i64)) (.pair (.int .i64) (.pair (.int .i64) .unit))) .imm d0 fun x0 => castDm (.sl 23 (.sl 2 (.int .i64))) .imm d1 fun x1 => bindO (spec_UndoRun N x0 x1) fun r => k [⟨(.pair (.pair (.sl 25 (.pair (.sl 2 (.int .i64)) (.pair (.int .i64) (.pair (.int .i64) .unit)))) (.pair (.sl 25 (.pair (.sl 2 (.int .i64)) (.pair (.int .i64) (.pair (.int .i64) .unit)))) .unit)) (.pair (.pair (.sl 2 (.int .i64)) (.pair (.int .i64) (.pair (.int .i64) .unit))) (.pair (.int .i64) .unit))), (.pr (.pr (.own (.pr (.own .imm) .imm)) (.pr (.own (.pr (.own .imm) .imm)) .imm)) (.pr (.pr (.own .imm) .imm) .imm)), r⟩] []) = some y := h
  clear h
  obtain ⟨x0, rfl, h1⟩ := castDm_eq h0
  obtain ⟨x1, rfl, h2⟩ := castDm_eq h1
  obtain ⟨r, e, h⟩ := bindO_some h2
  refine ⟨_, _, h, fun k' => ?_⟩
  show (castDm (.pair (.sl 2 (.int .i64)) (.pair (.int .i64) (.pair (.int .i64) .unit))) .imm (⟨(.pair (.sl 2 (.int .i64)) (.pair (.int .i64) (.pair (.int .i64) .unit))), .imm, x0⟩ : Dy) fun x0 => castDm (.sl 23 (.sl 2 (.int .i64))) .imm (⟨(.sl 23 (.sl 2 (.int .i64))), .imm, x1⟩ : Dy) fun x1 => bindO (spec_UndoRun N x0 x1) fun r => k' [⟨(.pair (.pair (.sl 25 (.pair (.sl 2 (.int .i64)) (.pair (.int .i64) (.pair (.int .i64) .unit)))) (.pair (.sl 25 (.pair (.sl 2 (.int .i64)) (.pair (.int .i64) (.pair (.int .i64) .unit)))) .unit)) (.pair (.pair (.sl 2 (.int .i64)) (.pair (.int .i64) (.pair (.int .i64) .unit))) (.pair (.int .i64) .unit))), (.pr (.pr (.own (.pr (.own .imm) .imm)) (.pr (.own (.pr (.own .imm) .imm)) .imm)) (.pr (.pr (.own .imm) .imm) .imm)), r⟩] []) = _
  simp only [castDm_self]
  rw [e]
  rfl
noncomputable def laws_lwCopy.con (N : Nat) : Con := { modes := [.v], ptrs := [false], fn := fun ds k => match ds with | [d0] => castDm (.sl 2 (.int .i64)) .imm d0 fun x0 => bindO (laws_lwCopy N x0) fun r => k [⟨(.sl 2 (.int .i64)), (.own .imm), r⟩] [] | _ => none }
noncomputable def laws_lwCopy.cfg (N : Nat) : Cfg := { ty := tys, keep := [], flt := [], elm := [(22, (.own .imm)), (23, (.own .imm)), (24, (.pr (.own .imm) .imm)), (25, (.pr (.own .imm) .imm)), (26, (.own (.own .imm))), (29, (.own (.pr (.own .imm) .imm))), (30, (.pr (.own (.pr (.own .imm) .imm)) (.pr (.own (.pr (.own .imm) .imm)) .imm))), (31, (.pr (.own (.pr (.own .imm) .imm)) (.pr (.own (.pr (.own .imm) .imm)) .imm))), (32, (.pr (.pr (.own (.pr (.own .imm) .imm)) (.pr (.own (.pr (.own .imm) .imm)) .imm)) (.pr (.pr (.own .imm) .imm) .imm))), (33, (.pr (.pr (.own (.pr (.own .imm) .imm)) (.pr (.own (.pr (.own .imm) .imm)) .imm)) (.pr (.pr (.own .imm) .imm) .imm))), (44, (.pr (.own .imm) .imm)), (45, (.pr (.own .imm) .imm)), (52, (.pr (.pr (.own .imm) .imm) (.pr (.own .imm) .imm))), (53, (.pr (.pr (.own .imm) .imm) (.pr (.own .imm) .imm)))], live := [], ord := [], con := [], loops := [], joins := [] }
theorem laws_lwCopy.cons (N : Nat) : ConsOk Try.prog (laws_lwCopy.cfg N).con := consOk_nil
theorem laws_lwCopy.ls (N : Nat) : LoopsOk Try.prog (laws_lwCopy.cfg N) (fnBody Try.f8) := loopsL (l := []) (by kernel_rfl) trivial
theorem laws_lwCopy.b (N : Nat) (x0 : den (.sl 2 (.int .i64))) : body (laws_lwCopy.cfg N) N Try.f8 [.one] [.v] [(false, (.own .imm))] [⟨(.sl 2 (.int .i64)), .imm, x0⟩] (fun r i => some (r, i)) = bindO (laws_lwCopy N x0) fun r => some ([⟨(.sl 2 (.int .i64)), (.own .imm), r⟩], []) := by
  show _ = bindF _ _
  conv => rhs; simp only [laws_lwCopy, bindF_ifB, bindF_bindO, bindF_pure, bindF_none, bindF_onSum]
  kernel_rfl
theorem laws_lwCopy.ok (N : Nat) : ConOk Try.prog 8 [.one] (laws_lwCopy.con N) := by
  refine conOk_mk (g := laws_lwCopy.cfg N) (N := N) (res := [(false, (.own .imm))]) tys_ok (laws_lwCopy.cons N) mixed Try.func8 (laws_lwCopy.ls N) rfl rfl ?_
  intro ds R k y h
  cases ds with
  | nil => exact none_some h
  | cons d0 ds =>
  cases ds with
  | cons _ _ => exact none_some h
  | nil =>
  have h0 : (castDm (.sl 2 (.int .i64)) .imm d0 fun x0 => bindO (laws_lwCopy N x0) fun r => k [⟨(.sl 2 (.int .i64)), (.own .imm), r⟩] []) = some y := h
  clear h
  obtain ⟨x0, rfl, h1⟩ := castDm_eq h0
  exact con_fin (laws_lwCopy.b N x0) h1
theorem laws_lwCopy.det (N : Nat) : ConDet (laws_lwCopy.con N) := by
  intro ds R k y h
  cases ds with
  | nil => exact none_some h
  | cons d0 ds =>
  cases ds with
  | cons _ _ => exact none_some h
  | nil =>
  have h0 : (castDm (.sl 2 (.int .i64)) .imm d0 fun x0 => bindO (laws_lwCopy N x0) fun r => k [⟨(.sl 2 (.int .i64)), (.own .imm), r⟩] []) = some y := h
  clear h
  obtain ⟨x0, rfl, h1⟩ := castDm_eq h0
  obtain ⟨r, e, h⟩ := bindO_some h1
  refine ⟨_, _, h, fun k' => ?_⟩
  show (castDm (.sl 2 (.int .i64)) .imm (⟨(.sl 2 (.int .i64)), .imm, x0⟩ : Dy) fun x0 => bindO (laws_lwCopy N x0) fun r => k' [⟨(.sl 2 (.int .i64)), (.own .imm), r⟩] []) = _
  simp only [castDm_self]
  rw [e]
  rfl
end Go.AE.F
