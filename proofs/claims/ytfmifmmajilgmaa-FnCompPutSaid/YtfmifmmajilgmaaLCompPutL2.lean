/- The printed functions are what the program comes to: contracts. -/
import Derived.Test.YtfmifmmajilgmaaLCompPutL1
namespace Go.AE.F
open Go.AE Go.Proofs
set_option maxRecDepth 100000
noncomputable def spec_WordAhead.con (N : Nat) : Con := { modes := [.v], ptrs := [false], fn := fun ds k => match ds with | [d0] => castDm (.pair (.sl 2 (.int .i64)) (.pair (.int .i64) (.pair (.int .i64) .unit))) .imm d0 fun x0 => bindO (spec_WordAhead N x0) fun r => k [⟨(.sl 2 (.int .i64)), (.own .imm), r⟩] [] | _ => none }
noncomputable def spec_WordAhead.cfg (N : Nat) : Cfg := { ty := tys, keep := [4, 10, 14], flt := [], elm := [(22, (.own .imm)), (23, (.own .imm)), (24, (.pr (.own .imm) .imm)), (25, (.pr (.own .imm) .imm)), (26, (.own (.own .imm))), (29, (.pr (.pr (.own .imm) .imm) (.pr (.own .imm) .imm))), (30, (.pr (.pr (.own .imm) .imm) (.pr (.own .imm) .imm))), (54, (.pr (.own .imm) .imm)), (55, (.pr (.own .imm) .imm)), (61, (.own .imm))], live := [], ord := [(3, [0, 1, 2, 4, 5, 3, 6, 7, 8])], con := [((19, [.one]), spec_BufRight.con N), ((44, [.one]), spec_l15Word.con N), ((23, [.one]), spec_l01Copy.con N)], loops := [], joins := [] }
theorem spec_WordAhead.cons (N : Nat) : ConsOk Try.prog (spec_WordAhead.cfg N).con := (consOk_cons (hb19) (spec_BufRight.ok N) (spec_BufRight.det N) (consOk_cons (hb44) (spec_l15Word.ok N) (spec_l15Word.det N) (consOk_cons (hb23) (spec_l01Copy.ok N) (spec_l01Copy.det N) consOk_nil)))
theorem spec_WordAhead.ls (N : Nat) : LoopsOk Try.prog (spec_WordAhead.cfg N) (fnBody Try.f21) := loopsL (l := []) (by kernel_rfl) trivial
theorem spec_WordAhead.b (N : Nat) (x0 : den (.pair (.sl 2 (.int .i64)) (.pair (.int .i64) (.pair (.int .i64) .unit)))) : body (spec_WordAhead.cfg N) N Try.f21 [.one] [.v] [(false, (.own .imm))] [⟨(.pair (.sl 2 (.int .i64)) (.pair (.int .i64) (.pair (.int .i64) .unit))), .imm, x0⟩] (fun r i => some (r, i)) = bindO (spec_WordAhead N x0) fun r => some ([⟨(.sl 2 (.int .i64)), (.own .imm), r⟩], []) := by
  show _ = bindF _ _
  conv => rhs; simp only [spec_WordAhead, bindF_ifB, bindF_bindO, bindF_pure, bindF_none, bindF_onSum]
  kernel_rfl
theorem spec_WordAhead.ok (N : Nat) : ConOk Try.prog 21 [.one] (spec_WordAhead.con N) := by
  refine conOk_mk (g := spec_WordAhead.cfg N) (N := N) (res := [(false, (.own .imm))]) tys_ok (spec_WordAhead.cons N) mixed Try.func21 (spec_WordAhead.ls N) rfl rfl ?_
  intro ds R k y h
  cases ds with
  | nil => exact none_some h
  | cons d0 ds =>
  cases ds with
  | cons _ _ => exact none_some h
  | nil =>
  have h0 : (castDm (.pair (.sl 2 (.int .i64)) (.pair (.int .i64) (.pair (.int .i64) .unit))) .imm d0 fun x0 => bindO (spec_WordAhead N x0) fun r => k [⟨(.sl 2 (.int .i64)), (.own .imm), r⟩] []) = some y := h
  clear h
  obtain ⟨x0, rfl, h1⟩ := castDm_eq h0
  exact con_fin (spec_WordAhead.b N x0) h1
theorem spec_WordAhead.det (N : Nat) : ConDet (spec_WordAhead.con N) := by
  intro ds R k y h
  cases ds with
  | nil => exact none_some h
  | cons d0 ds =>
  cases ds with
  | cons _ _ => exact none_some h
  | nil =>
  have h0 : (castDm (.pair (.sl 2 (.int .i64)) (.pair (.int .i64) (.pair (.int .i64) .unit))) .imm d0 fun x0 => bindO (spec_WordAhead N x0) fun r => k [⟨(.sl 2 (.int .i64)), (.own .imm), r⟩] []) = some y := h
  clear h
  obtain ⟨x0, rfl, h1⟩ := castDm_eq h0
  obtain ⟨r, e, h⟩ := bindO_some h1
  refine ⟨_, _, h, fun k' => ?_⟩
  show (castDm (.pair (.sl 2 (.int .i64)) (.pair (.int .i64) (.pair (.int .i64) .unit))) .imm (⟨(.pair (.sl 2 (.int .i64)) (.pair (.int .i64) (.pair (.int .i64) .unit))), .imm, x0⟩ : Dy) fun x0 => bindO (spec_WordAhead N x0) fun r => k' [⟨(.sl 2 (.int .i64)), (.own .imm), r⟩] []) = _
  simp only [castDm_self]
  rw [e]
  rfl
def spec_l01Same.sk4 : Skel := ⟨[.pv (.sl 2 (.int .i64)), .pv (.sl 2 (.int .i64)), .dead, .dead, .dead, .pv (.int .i64), .dead, .dead, .dead, .dead, .dead, .dead, .dead, .dead, .dead, .dead, .dead, .dead, .dead, .dead, .dead, .dead, .dead, .dead, .dead, .dead], []⟩
def spec_l01Same.xs4 : List XS := [⟨.exit 0, [], ⟨[.dead, .dead, .dead, .dead, .dead, .dead, .dead, .dead, .dead, .dead, .dead, .dead, .dead, .dead, .dead, .dead, .dead, .dead, .dead, .dead, .dead, .dead, .dead, .dead, .dead, .dead], []⟩⟩, ⟨.ret, [4], ⟨[.dead, .dead, .dead, .dead, .pv .bool, .dead, .dead, .dead, .dead, .dead, .dead, .dead, .dead, .dead, .dead, .dead, .dead, .dead, .dead, .dead, .dead, .dead, .dead, .dead, .dead, .dead], []⟩⟩]
noncomputable def spec_l01Same.con (N : Nat) : Con := { modes := [.v, .v], ptrs := [false], fn := fun ds k => match ds with | [d0, d1] => castDm (.sl 2 (.int .i64)) .imm d0 fun x0 => castDm (.sl 2 (.int .i64)) .imm d1 fun x1 => bindO (spec_l01Same N x0 x1) fun r => k [⟨.bool, .imm, r⟩] [] | _ => none }
noncomputable def spec_l01Same.cfg (N : Nat) : Cfg := { ty := tys, keep := [], flt := [], elm := [(22, (.own .imm)), (23, (.own .imm)), (24, (.pr (.own .imm) .imm)), (25, (.pr (.own .imm) .imm)), (26, (.own (.own .imm))), (29, (.pr (.pr (.own .imm) .imm) (.pr (.own .imm) .imm))), (30, (.pr (.pr (.own .imm) .imm) (.pr (.own .imm) .imm))), (54, (.pr (.own .imm) .imm)), (55, (.pr (.own .imm) .imm)), (61, (.own .imm))], live := [(4, [0, 1, 5])], ord := [(6, [0, 1, 2, 3, 4, 5, 6, 7, 8])], con := [], loops := [(4, loopCon N spec_l01Same.sk4 spec_l01Same.xs4 (fun {R} => spec_l01Same.l4 (R := R) N))], joins := [] }
theorem spec_l01Same.cons (N : Nat) : ConsOk Try.prog (spec_l01Same.cfg N).con := consOk_nil
theorem spec_l01Same.h4 {R : Type} (N : Nat) (d : spec_l01Same.sk4.D) (kn : spec_l01Same.sk4.D → Option R) (kx : XD spec_l01Same.xs4 → Option R) : roundK (spec_l01Same.cfg N) N (nthLoop (fnBody Try.f65) 0) spec_l01Same.sk4 spec_l01Same.xs4 d kn kx = spec_l01Same.l4 N d kn kx := by kernel_rfl
theorem spec_l01Same.i4 (N : Nat) : LoopsOk Try.prog (spec_l01Same.cfg N) (nthLoop (fnBody Try.f65) 0) := loopsL (l := []) (by kernel_rfl) trivial
theorem spec_l01Same.o4 (N : Nat) : LoopOk Try.prog (nthLoop (fnBody Try.f65) 0) (loopCon N spec_l01Same.sk4 spec_l01Same.xs4 (fun {R} => spec_l01Same.l4 (R := R) N)) := loop_ok (g := spec_l01Same.cfg N) tys_ok (spec_l01Same.cons N) mixed (spec_l01Same.i4 N) (fun d kn kx => spec_l01Same.h4 N d kn kx)
theorem spec_l01Same.ls (N : Nat) : LoopsOk Try.prog (spec_l01Same.cfg N) (fnBody Try.f65) := loopsL (l := [nthLoop (fnBody Try.f65) 0]) (by kernel_rfl) ⟨loopOne (L0 := loopCon N spec_l01Same.sk4 spec_l01Same.xs4 (fun {R} => spec_l01Same.l4 (R := R) N)) (id := 4) (by kernel_rfl) (by kernel_rfl) (spec_l01Same.o4 N), trivial⟩
theorem spec_l01Same.q4 {R R' : Type} {N n : Nat} {d} {k} {g : R → Option R'} : bindF (loopP (spec_l01Same.l4 N) n d k) g = loopP (spec_l01Same.l4 N) n d fun e => bindF (k e) g := bindF_loopP (fun d kn kx => by simp only [spec_l01Same.l4, bindF_ifB, bindF_bindO, bindF_pure, bindF_none, bindF_onSum]) n d k
theorem spec_l01Same.b (N : Nat) (x0 : den (.sl 2 (.int .i64))) (x1 : den (.sl 2 (.int .i64))) : body (spec_l01Same.cfg N) N Try.f65 [.one, .one] [.v, .v] [(false, .imm)] [⟨(.sl 2 (.int .i64)), .imm, x0⟩, ⟨(.sl 2 (.int .i64)), .imm, x1⟩] (fun r i => some (r, i)) = bindO (spec_l01Same N x0 x1) fun r => some ([⟨.bool, .imm, r⟩], []) := by
  show _ = bindF _ _
  conv => rhs; simp only [spec_l01Same, bindF_ifB, bindF_bindO, bindF_pure, bindF_none, bindF_onSum, spec_l01Same.q4]
  kernel_rfl
theorem spec_l01Same.ok (N : Nat) : ConOk Try.prog 65 [.one, .one] (spec_l01Same.con N) := by
  refine conOk_mk (g := spec_l01Same.cfg N) (N := N) (res := [(false, .imm)]) tys_ok (spec_l01Same.cons N) mixed Try.func65 (spec_l01Same.ls N) rfl rfl ?_
  intro ds R k y h
  cases ds with
  | nil => exact none_some h
  | cons d0 ds =>
  cases ds with
  | nil => exact none_some h
  | cons d1 ds =>
  cases ds with
  | cons _ _ => exact none_some h
  | nil =>
  have h0 : (castDm (.sl 2 (.int .i64)) .imm d0 fun x0 => castDm (.sl 2 (.int .i64)) .imm d1 fun x1 => bindO (spec_l01Same N x0 x1) fun r => k [⟨.bool, .imm, r⟩] []) = some y := h
  clear h
  obtain ⟨x0, rfl, h1⟩ := castDm_eq h0
  obtain ⟨x1, rfl, h2⟩ := castDm_eq h1
  exact con_fin (spec_l01Same.b N x0 x1) h2
theorem spec_l01Same.det (N : Nat) : ConDet (spec_l01Same.con N) := by
  intro ds R k y h
  cases ds with
  | nil => exact none_some h
  | cons d0 ds =>
  cases ds with
  | nil => exact none_some h
  | cons d1 ds =>
  cases ds with
  | cons _ _ => exact none_some h
  | nil =>
  have h0 : (castDm (.sl 2 (.int .i64)) .imm d0 fun x0 => castDm (.sl 2 (.int .i64)) .imm d1 fun x1 => bindO (spec_l01Same N x0 x1) fun r => k [⟨.bool, .imm, r⟩] []) = some y := h
  clear h
  obtain ⟨x0, rfl, h1⟩ := castDm_eq h0
  obtain ⟨x1, rfl, h2⟩ := castDm_eq h1
  obtain ⟨r, e, h⟩ := bindO_some h2
  refine ⟨_, _, h, fun k' => ?_⟩
  show (castDm (.sl 2 (.int .i64)) .imm (⟨(.sl 2 (.int .i64)), .imm, x0⟩ : Dy) fun x0 => castDm (.sl 2 (.int .i64)) .imm (⟨(.sl 2 (.int .i64)), .imm, x1⟩ : Dy) fun x1 => bindO (spec_l01Same N x0 x1) fun r => k' [⟨.bool, .imm, r⟩] []) = _
  simp only [castDm_self]
  rw [e]
  rfl
noncomputable def spec_l06Begins.con (N : Nat) : Con := { modes := [.v, .v], ptrs := [false], fn := fun ds k => match ds with | [d0, d1] => castDm (.sl 2 (.int .i64)) .imm d0 fun x0 => castDm (.sl 2 (.int .i64)) .imm d1 fun x1 => bindO (spec_l06Begins N x0 x1) fun r => k [⟨.bool, .imm, r⟩] [] | _ => none }
noncomputable def spec_l06Begins.cfg (N : Nat) : Cfg := { ty := tys, keep := [16], flt := [], elm := [(22, (.own .imm)), (23, (.own .imm)), (24, (.pr (.own .imm) .imm)), (25, (.pr (.own .imm) .imm)), (26, (.own (.own .imm))), (29, (.pr (.pr (.own .imm) .imm) (.pr (.own .imm) .imm))), (30, (.pr (.pr (.own .imm) .imm) (.pr (.own .imm) .imm))), (54, (.pr (.own .imm) .imm)), (55, (.pr (.own .imm) .imm)), (61, (.own .imm))], live := [], ord := [], con := [((65, [.one, .one]), spec_l01Same.con N)], loops := [], joins := [] }
theorem spec_l06Begins.cons (N : Nat) : ConsOk Try.prog (spec_l06Begins.cfg N).con := (consOk_cons (hb65) (spec_l01Same.ok N) (spec_l01Same.det N) consOk_nil)
theorem spec_l06Begins.ls (N : Nat) : LoopsOk Try.prog (spec_l06Begins.cfg N) (fnBody Try.f45) := loopsL (l := []) (by kernel_rfl) trivial
theorem spec_l06Begins.b (N : Nat) (x0 : den (.sl 2 (.int .i64))) (x1 : den (.sl 2 (.int .i64))) : body (spec_l06Begins.cfg N) N Try.f45 [.one, .one] [.v, .v] [(false, .imm)] [⟨(.sl 2 (.int .i64)), .imm, x0⟩, ⟨(.sl 2 (.int .i64)), .imm, x1⟩] (fun r i => some (r, i)) = bindO (spec_l06Begins N x0 x1) fun r => some ([⟨.bool, .imm, r⟩], []) := by
  show _ = bindF _ _
  conv => rhs; simp only [spec_l06Begins, bindF_ifB, bindF_bindO, bindF_pure, bindF_none, bindF_onSum]
  kernel_rfl
theorem spec_l06Begins.ok (N : Nat) : ConOk Try.prog 45 [.one, .one] (spec_l06Begins.con N) := by
  refine conOk_mk (g := spec_l06Begins.cfg N) (N := N) (res := [(false, .imm)]) tys_ok (spec_l06Begins.cons N) mixed Try.func45 (spec_l06Begins.ls N) rfl rfl ?_
  intro ds R k y h
  cases ds with
  | nil => exact none_some h
  | cons d0 ds =>
  cases ds with
  | nil => exact none_some h
  | cons d1 ds =>
  cases ds with
  | cons _ _ => exact none_some h
  | nil =>
  have h0 : (castDm (.sl 2 (.int .i64)) .imm d0 fun x0 => castDm (.sl 2 (.int .i64)) .imm d1 fun x1 => bindO (spec_l06Begins N x0 x1) fun r => k [⟨.bool, .imm, r⟩] []) = some y := h
  clear h
  obtain ⟨x0, rfl, h1⟩ := castDm_eq h0
  obtain ⟨x1, rfl, h2⟩ := castDm_eq h1
  exact con_fin (spec_l06Begins.b N x0 x1) h2
theorem spec_l06Begins.det (N : Nat) : ConDet (spec_l06Begins.con N) := by
  intro ds R k y h
  cases ds with
  | nil => exact none_some h
  | cons d0 ds =>
  cases ds with
  | nil => exact none_some h
  | cons d1 ds =>
  cases ds with
  | cons _ _ => exact none_some h
  | nil =>
  have h0 : (castDm (.sl 2 (.int .i64)) .imm d0 fun x0 => castDm (.sl 2 (.int .i64)) .imm d1 fun x1 => bindO (spec_l06Begins N x0 x1) fun r => k [⟨.bool, .imm, r⟩] []) = some y := h
  clear h
  obtain ⟨x0, rfl, h1⟩ := castDm_eq h0
  obtain ⟨x1, rfl, h2⟩ := castDm_eq h1
  obtain ⟨r, e, h⟩ := bindO_some h2
  refine ⟨_, _, h, fun k' => ?_⟩
  show (castDm (.sl 2 (.int .i64)) .imm (⟨(.sl 2 (.int .i64)), .imm, x0⟩ : Dy) fun x0 => castDm (.sl 2 (.int .i64)) .imm (⟨(.sl 2 (.int .i64)), .imm, x1⟩ : Dy) fun x1 => bindO (spec_l06Begins N x0 x1) fun r => k' [⟨.bool, .imm, r⟩] []) = _
  simp only [castDm_self]
  rw [e]
  rfl
def spec_CompMatch.sk5 : Skel := ⟨[.pv (.sl 23 (.sl 2 (.int .i64))), .pv (.sl 2 (.int .i64)), .dead, .dead, .dead, .ov 50 [], .pv (.int .i64), .dead, .dead, .dead, .dead, .dead, .dead, .dead, .dead, .dead, .dead, .dead, .dead, .dead, .dead, .dead, .dead, .dead, .dead, .dead, .dead, .dead, .dead, .dead, .dead, .dead, .dead, .dead, .dead, .dead, .dead, .dead, .dead, .dead, .dead, .dead, .dead, .dead], [⟨50, (.sl 2 (.int .i64)), (.own .imm), false, false⟩]⟩
def spec_CompMatch.xs5 : List XS := [⟨.exit 0, [5], ⟨[.dead, .dead, .dead, .dead, .dead, .ov 50 [], .dead, .dead, .dead, .dead, .dead, .dead, .dead, .dead, .dead, .dead, .dead, .dead, .dead, .dead, .dead, .dead, .dead, .dead, .dead, .dead, .dead, .dead, .dead, .dead, .dead, .dead, .dead, .dead, .dead, .dead, .dead, .dead, .dead, .dead, .dead, .dead, .dead, .dead], [⟨50, (.sl 2 (.int .i64)), (.own .imm), false, false⟩]⟩⟩]
noncomputable def spec_CompMatch.con (N : Nat) : Con := { modes := [.v, .v], ptrs := [false], fn := fun ds k => match ds with | [d0, d1] => castDm (.sl 23 (.sl 2 (.int .i64))) .imm d0 fun x0 => castDm (.sl 2 (.int .i64)) .imm d1 fun x1 => bindO (spec_CompMatch N x0 x1) fun r => k [⟨(.sl 2 (.int .i64)), (.own .imm), r⟩] [] | _ => none }
noncomputable def spec_CompMatch.cfg (N : Nat) : Cfg := { ty := tys, keep := [18, 23, 38], flt := [], elm := [(22, (.own .imm)), (23, (.own .imm)), (24, (.pr (.own .imm) .imm)), (25, (.pr (.own .imm) .imm)), (26, (.own (.own .imm))), (29, (.pr (.pr (.own .imm) .imm) (.pr (.own .imm) .imm))), (30, (.pr (.pr (.own .imm) .imm) (.pr (.own .imm) .imm))), (54, (.pr (.own .imm) .imm)), (55, (.pr (.own .imm) .imm)), (61, (.own .imm))], live := [(5, [0, 1, 5, 6])], ord := [], con := [((20, [.one]), spec_CandsRight.con N), ((42, [.one]), spec_PointsRight.con N), ((45, [.one, .one]), spec_l06Begins.con N)], loops := [(5, loopCon N spec_CompMatch.sk5 spec_CompMatch.xs5 (fun {R} => spec_CompMatch.l5 (R := R) N))], joins := [(6, [⟨.normal, [0, 1, 5, 6], ⟨[.pv (.sl 23 (.sl 2 (.int .i64))), .pv (.sl 2 (.int .i64)), .dead, .dead, .dead, .ov 50 [], .pv (.int .i64), .dead, .dead, .dead, .dead, .dead, .dead, .dead, .dead, .dead, .dead, .dead, .dead, .dead, .dead, .dead, .dead, .dead, .dead, .dead, .dead, .dead, .dead, .dead, .dead, .dead, .dead, .dead, .dead, .dead, .dead, .dead, .dead, .dead, .dead, .dead, .dead, .dead], [⟨50, (.sl 2 (.int .i64)), (.own .imm), false, false⟩]⟩⟩])] }
theorem spec_CompMatch.cons (N : Nat) : ConsOk Try.prog (spec_CompMatch.cfg N).con := (consOk_cons (hb20) (spec_CandsRight.ok N) (spec_CandsRight.det N) (consOk_cons (hb42) (spec_PointsRight.ok N) (spec_PointsRight.det N) (consOk_cons (hb45) (spec_l06Begins.ok N) (spec_l06Begins.det N) consOk_nil)))
theorem spec_CompMatch.h5 {R : Type} (N : Nat) (d : spec_CompMatch.sk5.D) (kn : spec_CompMatch.sk5.D → Option R) (kx : XD spec_CompMatch.xs5 → Option R) : roundK (spec_CompMatch.cfg N) N (nthLoop (fnBody Try.f22) 0) spec_CompMatch.sk5 spec_CompMatch.xs5 d kn kx = spec_CompMatch.l5 N d kn kx := by kernel_rfl
theorem spec_CompMatch.i5 (N : Nat) : LoopsOk Try.prog (spec_CompMatch.cfg N) (nthLoop (fnBody Try.f22) 0) := loopsL (l := []) (by kernel_rfl) trivial
theorem spec_CompMatch.o5 (N : Nat) : LoopOk Try.prog (nthLoop (fnBody Try.f22) 0) (loopCon N spec_CompMatch.sk5 spec_CompMatch.xs5 (fun {R} => spec_CompMatch.l5 (R := R) N)) := loop_ok (g := spec_CompMatch.cfg N) tys_ok (spec_CompMatch.cons N) mixed (spec_CompMatch.i5 N) (fun d kn kx => spec_CompMatch.h5 N d kn kx)
theorem spec_CompMatch.ls (N : Nat) : LoopsOk Try.prog (spec_CompMatch.cfg N) (fnBody Try.f22) := loopsL (l := [nthLoop (fnBody Try.f22) 0]) (by kernel_rfl) ⟨loopOne (L0 := loopCon N spec_CompMatch.sk5 spec_CompMatch.xs5 (fun {R} => spec_CompMatch.l5 (R := R) N)) (id := 5) (by kernel_rfl) (by kernel_rfl) (spec_CompMatch.o5 N), trivial⟩
theorem spec_CompMatch.q5 {R R' : Type} {N n : Nat} {d} {k} {g : R → Option R'} : bindF (loopP (spec_CompMatch.l5 N) n d k) g = loopP (spec_CompMatch.l5 N) n d fun e => bindF (k e) g := bindF_loopP (fun d kn kx => by simp only [spec_CompMatch.l5, bindF_ifB, bindF_bindO, bindF_pure, bindF_none, bindF_onSum]) n d k
theorem spec_CompMatch.b (N : Nat) (x0 : den (.sl 23 (.sl 2 (.int .i64)))) (x1 : den (.sl 2 (.int .i64))) : body (spec_CompMatch.cfg N) N Try.f22 [.one, .one] [.v, .v] [(false, (.own .imm))] [⟨(.sl 23 (.sl 2 (.int .i64))), .imm, x0⟩, ⟨(.sl 2 (.int .i64)), .imm, x1⟩] (fun r i => some (r, i)) = bindO (spec_CompMatch N x0 x1) fun r => some ([⟨(.sl 2 (.int .i64)), (.own .imm), r⟩], []) := by
  show _ = bindF _ _
  conv => rhs; simp only [spec_CompMatch, bindF_ifB, bindF_bindO, bindF_pure, bindF_none, bindF_onSum, spec_CompMatch.q5]
  kernel_rfl
theorem spec_CompMatch.ok (N : Nat) : ConOk Try.prog 22 [.one, .one] (spec_CompMatch.con N) := by
  refine conOk_mk (g := spec_CompMatch.cfg N) (N := N) (res := [(false, (.own .imm))]) tys_ok (spec_CompMatch.cons N) mixed Try.func22 (spec_CompMatch.ls N) rfl rfl ?_
  intro ds R k y h
  cases ds with
  | nil => exact none_some h
  | cons d0 ds =>
  cases ds with
  | nil => exact none_some h
  | cons d1 ds =>
  cases ds with
  | cons _ _ => exact none_some h
  | nil =>
  have h0 : (castDm (.sl 23 (.sl 2 (.int .i64))) .imm d0 fun x0 => castDm (.sl 2 (.int .i64)) .imm d1 fun x1 => bindO (spec_CompMatch N x0 x1) fun r => k [⟨(.sl 2 (.int .i64)), (.own .imm), r⟩] []) = some y := h
  clear h
  obtain ⟨x0, rfl, h1⟩ := castDm_eq h0
  obtain ⟨x1, rfl, h2⟩ := castDm_eq h1
  exact con_fin (spec_CompMatch.b N x0 x1) h2
theorem spec_CompMatch.det (N : Nat) : ConDet (spec_CompMatch.con N) := by
  intro ds R k y h
  cases ds with
  | nil => exact none_some h
  | cons d0 ds =>
  cases ds with
  | nil => exact none_some h
  | cons d1 ds =>
  cases ds with
  | cons _ _ => exact none_some h
  | nil =>
  have h0 : (castDm (.sl 23 (.sl 2 (.int .i64))) .imm d0 fun x0 => castDm (.sl 2 (.int .i64)) .imm d1 fun x1 => bindO (spec_CompMatch N x0 x1) fun r => k [⟨(.sl 2 (.int .i64)), (.own .imm), r⟩] []) = some y := h
  clear h
  obtain ⟨x0, rfl, h1⟩ := castDm_eq h0
  obtain ⟨x1, rfl, h2⟩ := castDm_eq h1
  obtain ⟨r, e, h⟩ := bindO_some h2
  refine ⟨_, _, h, fun k' => ?_⟩
  show (castDm (.sl 23 (.sl 2 (.int .i64))) .imm (⟨(.sl 23 (.sl 2 (.int .i64))), .imm, x0⟩ : Dy) fun x0 => castDm (.sl 2 (.int .i64)) .imm (⟨(.sl 2 (.int .i64)), .imm, x1⟩ : Dy) fun x1 => bindO (spec_CompMatch N x0 x1) fun r => k' [⟨(.sl 2 (.int .i64)), (.own .imm), r⟩] []) = _
  simp only [castDm_self]
  rw [e]
  rfl
def spec_CompCommon.sk8 : Skel := ⟨[.pv (.sl 23 (.sl 2 (.int .i64))), .dead, .dead, .dead, .dead, .ov 50 [], .ov 51 [], .pv (.int .i64), .dead, .dead, .dead, .dead, .dead, .dead, .dead, .dead, .dead, .dead, .dead, .dead, .dead, .dead, .dead, .dead, .dead, .dead, .dead, .dead, .dead, .dead, .dead, .dead, .dead, .dead, .dead, .dead, .dead, .dead, .dead, .dead, .dead, .dead, .dead, .dead, .dead, .dead, .dead, .dead, .dead, .dead, .dead, .dead, .dead, .dead, .dead, .dead, .dead, .dead, .dead], [⟨50, (.sl 2 (.int .i64)), (.own .imm), false, false⟩, ⟨51, (.sl 2 (.int .i64)), (.own .imm), false, false⟩]⟩
def spec_CompCommon.xs8 : List XS := [⟨.exit 0, [6], ⟨[.dead, .dead, .dead, .dead, .dead, .dead, .ov 50 [], .dead, .dead, .dead, .dead, .dead, .dead, .dead, .dead, .dead, .dead, .dead, .dead, .dead, .dead, .dead, .dead, .dead, .dead, .dead, .dead, .dead, .dead, .dead, .dead, .dead, .dead, .dead, .dead, .dead, .dead, .dead, .dead, .dead, .dead, .dead, .dead, .dead, .dead, .dead, .dead, .dead, .dead, .dead, .dead, .dead, .dead, .dead, .dead, .dead, .dead, .dead, .dead], [⟨50, (.sl 2 (.int .i64)), (.own .imm), false, false⟩]⟩⟩]
def spec_CompCommon.sk10 : Skel := ⟨[.pv (.sl 23 (.sl 2 (.int .i64))), .dead, .dead, .dead, .dead, .ov 50 [], .ov 51 [], .pv (.int .i64), .dead, .dead, .dead, .dead, .dead, .dead, .dead, .dead, .dead, .dead, .dead, .dead, .dead, .dead, .dead, .dead, .dead, .dead, .dead, .dead, .dead, .dead, .dead, .dead, .dead, .dead, .dead, .dead, .dead, .dead, .dead, .dead, .dead, .dead, .dead, .dead, .dead, .dead, .dead, .dead, .dead, .dead, .dead, .dead, .dead, .dead, .dead, .dead, .dead, .dead, .dead], [⟨50, (.sl 2 (.int .i64)), (.own .imm), false, false⟩, ⟨51, (.sl 2 (.int .i64)), (.own .imm), false, false⟩]⟩
def spec_CompCommon.xs10 : List XS := [⟨.exit 2, [0, 5, 6, 7], ⟨[.pv (.sl 23 (.sl 2 (.int .i64))), .dead, .dead, .dead, .dead, .ov 50 [], .ov 51 [], .pv (.int .i64), .dead, .dead, .dead, .dead, .dead, .dead, .dead, .dead, .dead, .dead, .dead, .dead, .dead, .dead, .dead, .dead, .dead, .dead, .dead, .dead, .dead, .dead, .dead, .dead, .dead, .dead, .dead, .dead, .dead, .dead, .dead, .dead, .dead, .dead, .dead, .dead, .dead, .dead, .dead, .dead, .dead, .dead, .dead, .dead, .dead, .dead, .dead, .dead, .dead, .dead, .dead], [⟨50, (.sl 2 (.int .i64)), (.own .imm), false, false⟩, ⟨51, (.sl 2 (.int .i64)), (.own .imm), false, false⟩]⟩⟩]
noncomputable def spec_CompCommon.con (N : Nat) : Con := { modes := [.v, .v], ptrs := [false], fn := fun ds k => match ds with | [d0, d1] => castDm (.sl 23 (.sl 2 (.int .i64))) .imm d0 fun x0 => castDm (.sl 2 (.int .i64)) .imm d1 fun x1 => bindO (spec_CompCommon N x0 x1) fun r => k [⟨(.sl 2 (.int .i64)), (.own .imm), r⟩] [] | _ => none }
noncomputable def spec_CompCommon.cfg (N : Nat) : Cfg := { ty := tys, keep := [18, 24, 29, 36, 51], flt := [], elm := [(22, (.own .imm)), (23, (.own .imm)), (24, (.pr (.own .imm) .imm)), (25, (.pr (.own .imm) .imm)), (26, (.own (.own .imm))), (29, (.pr (.pr (.own .imm) .imm) (.pr (.own .imm) .imm))), (30, (.pr (.pr (.own .imm) .imm) (.pr (.own .imm) .imm))), (54, (.pr (.own .imm) .imm)), (55, (.pr (.own .imm) .imm)), (61, (.own .imm))], live := [(10, [0, 5, 6, 7]), (8, [0, 5, 6, 7])], ord := [], con := [((42, [.one]), spec_PointsRight.con N), ((22, [.one, .one]), spec_CompMatch.con N), ((23, [.one]), spec_l01Copy.con N), ((45, [.one, .one]), spec_l06Begins.con N)], loops := [(8, loopCon N spec_CompCommon.sk8 spec_CompCommon.xs8 (fun {R} => spec_CompCommon.l8 (R := R) N)), (10, loopCon N spec_CompCommon.sk10 spec_CompCommon.xs10 (fun {R} => spec_CompCommon.l10 (R := R) N))], joins := [] }
theorem spec_CompCommon.cons (N : Nat) : ConsOk Try.prog (spec_CompCommon.cfg N).con := (consOk_cons (hb42) (spec_PointsRight.ok N) (spec_PointsRight.det N) (consOk_cons (hb22) (spec_CompMatch.ok N) (spec_CompMatch.det N) (consOk_cons (hb23) (spec_l01Copy.ok N) (spec_l01Copy.det N) (consOk_cons (hb45) (spec_l06Begins.ok N) (spec_l06Begins.det N) consOk_nil))))
theorem spec_CompCommon.h10 {R : Type} (N : Nat) (d : spec_CompCommon.sk10.D) (kn : spec_CompCommon.sk10.D → Option R) (kx : XD spec_CompCommon.xs10 → Option R) : roundK (spec_CompCommon.cfg N) N (nthLoop (fnBody Try.f24) 1) spec_CompCommon.sk10 spec_CompCommon.xs10 d kn kx = spec_CompCommon.l10 N d kn kx := by kernel_rfl
theorem spec_CompCommon.i10 (N : Nat) : LoopsOk Try.prog (spec_CompCommon.cfg N) (nthLoop (fnBody Try.f24) 1) := loopsL (l := []) (by kernel_rfl) trivial
theorem spec_CompCommon.o10 (N : Nat) : LoopOk Try.prog (nthLoop (fnBody Try.f24) 1) (loopCon N spec_CompCommon.sk10 spec_CompCommon.xs10 (fun {R} => spec_CompCommon.l10 (R := R) N)) := loop_ok (g := spec_CompCommon.cfg N) tys_ok (spec_CompCommon.cons N) mixed (spec_CompCommon.i10 N) (fun d kn kx => spec_CompCommon.h10 N d kn kx)
theorem spec_CompCommon.h8 {R : Type} (N : Nat) (d : spec_CompCommon.sk8.D) (kn : spec_CompCommon.sk8.D → Option R) (kx : XD spec_CompCommon.xs8 → Option R) : roundK (spec_CompCommon.cfg N) N (nthLoop (fnBody Try.f24) 0) spec_CompCommon.sk8 spec_CompCommon.xs8 d kn kx = spec_CompCommon.l8 N d kn kx := by kernel_rfl
theorem spec_CompCommon.i8 (N : Nat) : LoopsOk Try.prog (spec_CompCommon.cfg N) (nthLoop (fnBody Try.f24) 0) := loopsL (l := [nthLoop (fnBody Try.f24) 1]) (by kernel_rfl) ⟨loopOne (L0 := loopCon N spec_CompCommon.sk10 spec_CompCommon.xs10 (fun {R} => spec_CompCommon.l10 (R := R) N)) (id := 10) (by kernel_rfl) (by kernel_rfl) (spec_CompCommon.o10 N), trivial⟩
theorem spec_CompCommon.o8 (N : Nat) : LoopOk Try.prog (nthLoop (fnBody Try.f24) 0) (loopCon N spec_CompCommon.sk8 spec_CompCommon.xs8 (fun {R} => spec_CompCommon.l8 (R := R) N)) := loop_ok (g := spec_CompCommon.cfg N) tys_ok (spec_CompCommon.cons N) mixed (spec_CompCommon.i8 N) (fun d kn kx => spec_CompCommon.h8 N d kn kx)
theorem spec_CompCommon.ls (N : Nat) : LoopsOk Try.prog (spec_CompCommon.cfg N) (fnBody Try.f24) := loopsL (l := [nthLoop (fnBody Try.f24) 0, nthLoop (fnBody Try.f24) 1]) (by kernel_rfl) ⟨loopOne (L0 := loopCon N spec_CompCommon.sk8 spec_CompCommon.xs8 (fun {R} => spec_CompCommon.l8 (R := R) N)) (id := 8) (by kernel_rfl) (by kernel_rfl) (spec_CompCommon.o8 N), ⟨loopOne (L0 := loopCon N spec_CompCommon.sk10 spec_CompCommon.xs10 (fun {R} => spec_CompCommon.l10 (R := R) N)) (id := 10) (by kernel_rfl) (by kernel_rfl) (spec_CompCommon.o10 N), trivial⟩⟩
theorem spec_CompCommon.q10 {R R' : Type} {N n : Nat} {d} {k} {g : R → Option R'} : bindF (loopP (spec_CompCommon.l10 N) n d k) g = loopP (spec_CompCommon.l10 N) n d fun e => bindF (k e) g := bindF_loopP (fun d kn kx => by simp only [spec_CompCommon.l10, bindF_ifB, bindF_bindO, bindF_pure, bindF_none, bindF_onSum]) n d k
theorem spec_CompCommon.q8 {R R' : Type} {N n : Nat} {d} {k} {g : R → Option R'} : bindF (loopP (spec_CompCommon.l8 N) n d k) g = loopP (spec_CompCommon.l8 N) n d fun e => bindF (k e) g := bindF_loopP (fun d kn kx => by simp only [spec_CompCommon.l8, bindF_ifB, bindF_bindO, bindF_pure, bindF_none, bindF_onSum, spec_CompCommon.q10]) n d k
theorem spec_CompCommon.b (N : Nat) (x0 : den (.sl 23 (.sl 2 (.int .i64)))) (x1 : den (.sl 2 (.int .i64))) : body (spec_CompCommon.cfg N) N Try.f24 [.one, .one] [.v, .v] [(false, (.own .imm))] [⟨(.sl 23 (.sl 2 (.int .i64))), .imm, x0⟩, ⟨(.sl 2 (.int .i64)), .imm, x1⟩] (fun r i => some (r, i)) = bindO (spec_CompCommon N x0 x1) fun r => some ([⟨(.sl 2 (.int .i64)), (.own .imm), r⟩], []) := by
  show _ = bindF _ _
  conv => rhs; simp only [spec_CompCommon, bindF_ifB, bindF_bindO, bindF_pure, bindF_none, bindF_onSum, spec_CompCommon.q8, spec_CompCommon.q10]
  kernel_rfl
theorem spec_CompCommon.ok (N : Nat) : ConOk Try.prog 24 [.one, .one] (spec_CompCommon.con N) := by
  refine conOk_mk (g := spec_CompCommon.cfg N) (N := N) (res := [(false, (.own .imm))]) tys_ok (spec_CompCommon.cons N) mixed Try.func24 (spec_CompCommon.ls N) rfl rfl ?_
  intro ds R k y h
  cases ds with
  | nil => exact none_some h
  | cons d0 ds =>
  cases ds with
  | nil => exact none_some h
  | cons d1 ds =>
  cases ds with
  | cons _ _ => exact none_some h
  | nil =>
  have h0 : (castDm (.sl 23 (.sl 2 (.int .i64))) .imm d0 fun x0 => castDm (.sl 2 (.int .i64)) .imm d1 fun x1 => bindO (spec_CompCommon N x0 x1) fun r => k [⟨(.sl 2 (.int .i64)), (.own .imm), r⟩] []) = some y := h
  clear h
  obtain ⟨x0, rfl, h1⟩ := castDm_eq h0
  obtain ⟨x1, rfl, h2⟩ := castDm_eq h1
  exact con_fin (spec_CompCommon.b N x0 x1) h2
theorem spec_CompCommon.det (N : Nat) : ConDet (spec_CompCommon.con N) := by
  intro ds R k y h
  cases ds with
  | nil => exact none_some h
  | cons d0 ds =>
  cases ds with
  | nil => exact none_some h
  | cons d1 ds =>
  cases ds with
  | cons _ _ => exact none_some h
  | nil =>
  have h0 : (castDm (.sl 23 (.sl 2 (.int .i64))) .imm d0 fun x0 => castDm (.sl 2 (.int .i64)) .imm d1 fun x1 => bindO (spec_CompCommon N x0 x1) fun r => k [⟨(.sl 2 (.int .i64)), (.own .imm), r⟩] []) = some y := h
  clear h
  obtain ⟨x0, rfl, h1⟩ := castDm_eq h0
  obtain ⟨x1, rfl, h2⟩ := castDm_eq h1
  obtain ⟨r, e, h⟩ := bindO_some h2
  refine ⟨_, _, h, fun k' => ?_⟩
  show (castDm (.sl 23 (.sl 2 (.int .i64))) .imm (⟨(.sl 23 (.sl 2 (.int .i64))), .imm, x0⟩ : Dy) fun x0 => castDm (.sl 2 (.int .i64)) .imm (⟨(.sl 2 (.int .i64)), .imm, x1⟩ : Dy) fun x1 => bindO (spec_CompCommon N x0 x1) fun r => k' [⟨(.sl 2 (.int .i64)), (.own .imm), r⟩] []) = _
  simp only [castDm_self]
  rw [e]
  rfl
noncomputable def spec_CompPut.con (N : Nat) : Con := { modes := [.v, .v], ptrs := [false], fn := fun ds k => match ds with | [d0, d1] => castDm (.pair (.sl 2 (.int .i64)) (.pair (.int .i64) (.pair (.int .i64) .unit))) .imm d0 fun x0 => castDm (.sl 23 (.sl 2 (.int .i64))) .imm d1 fun x1 => bindO (spec_CompPut N x0 x1) fun r => k [⟨(.pair (.pair (.sl 2 (.int .i64)) (.pair (.int .i64) (.pair (.int .i64) .unit))) (.pair (.sl 2 (.int .i64)) (.pair (.int .i64) .unit))), (.pr (.pr (.own .imm) .imm) (.pr (.own .imm) .imm)), r⟩] [] | _ => none }
noncomputable def spec_CompPut.cfg (N : Nat) : Cfg := { ty := tys, keep := [13, 17, 22, 25, 32, 36, 45], flt := [], elm := [(22, (.own .imm)), (23, (.own .imm)), (24, (.pr (.own .imm) .imm)), (25, (.pr (.own .imm) .imm)), (26, (.own (.own .imm))), (29, (.pr (.pr (.own .imm) .imm) (.pr (.own .imm) .imm))), (30, (.pr (.pr (.own .imm) .imm) (.pr (.own .imm) .imm))), (54, (.pr (.own .imm) .imm)), (55, (.pr (.own .imm) .imm)), (61, (.own .imm))], live := [], ord := [], con := [((19, [.one]), spec_BufRight.con N), ((20, [.one]), spec_CandsRight.con N), ((21, [.one]), spec_WordAhead.con N), ((22, [.one, .one]), spec_CompMatch.con N), ((24, [.one, .one]), spec_CompCommon.con N), ((23, [.one]), spec_l01Copy.con N), ((16, [.one, .one]), spec_BufInsert.con N)], loops := [], joins := [] }
theorem spec_CompPut.cons (N : Nat) : ConsOk Try.prog (spec_CompPut.cfg N).con := (consOk_cons (hb19) (spec_BufRight.ok N) (spec_BufRight.det N) (consOk_cons (hb20) (spec_CandsRight.ok N) (spec_CandsRight.det N) (consOk_cons (hb21) (spec_WordAhead.ok N) (spec_WordAhead.det N) (consOk_cons (hb22) (spec_CompMatch.ok N) (spec_CompMatch.det N) (consOk_cons (hb24) (spec_CompCommon.ok N) (spec_CompCommon.det N) (consOk_cons (hb23) (spec_l01Copy.ok N) (spec_l01Copy.det N) (consOk_cons (hb16) (spec_BufInsert.ok N) (spec_BufInsert.det N) consOk_nil)))))))
theorem spec_CompPut.ls (N : Nat) : LoopsOk Try.prog (spec_CompPut.cfg N) (fnBody Try.f5) := loopsL (l := []) (by kernel_rfl) trivial
theorem spec_CompPut.b (N : Nat) (x0 : den (.pair (.sl 2 (.int .i64)) (.pair (.int .i64) (.pair (.int .i64) .unit)))) (x1 : den (.sl 23 (.sl 2 (.int .i64)))) : body (spec_CompPut.cfg N) N Try.f5 [.one, .one] [.v, .v] [(false, (.pr (.pr (.own .imm) .imm) (.pr (.own .imm) .imm)))] [⟨(.pair (.sl 2 (.int .i64)) (.pair (.int .i64) (.pair (.int .i64) .unit))), .imm, x0⟩, ⟨(.sl 23 (.sl 2 (.int .i64))), .imm, x1⟩] (fun r i => some (r, i)) = bindO (spec_CompPut N x0 x1) fun r => some ([⟨(.pair (.pair (.sl 2 (.int .i64)) (.pair (.int .i64) (.pair (.int .i64) .unit))) (.pair (.sl 2 (.int .i64)) (.pair (.int .i64) .unit))), (.pr (.pr (.own .imm) .imm) (.pr (.own .imm) .imm)), r⟩], []) := by
  show _ = bindF _ _
  conv => rhs; simp only [spec_CompPut, bindF_ifB, bindF_bindO, bindF_pure, bindF_none, bindF_onSum]
  kernel_rfl
theorem spec_CompPut.ok (N : Nat) : ConOk Try.prog 5 [.one, .one] (spec_CompPut.con N) := by
  refine conOk_mk (g := spec_CompPut.cfg N) (N := N) (res := [(false, (.pr (.pr (.own .imm) .imm) (.pr (.own .imm) .imm)))]) tys_ok (spec_CompPut.cons N) mixed Try.func5 (spec_CompPut.ls N) rfl rfl ?_
  intro ds R k y h
  cases ds with
  | nil => exact none_some h
  | cons d0 ds =>
  cases ds with
  | nil => exact none_some h
  | cons d1 ds =>
  cases ds with
  | cons _ _ => exact none_some h
  | nil =>
  have h0 : (castDm (.pair (.sl 2 (.int .i64)) (.pair (.int .i64) (.pair (.int .i64) .unit))) .imm d0 fun x0 => castDm (.sl 23 (.sl 2 (.int .i64))) .imm d1 fun x1 => bindO (spec_CompPut N x0 x1) fun r => k [⟨(.pair (.pair (.sl 2 (.int .i64)) (.pair (.int .i64) (.pair (.int .i64) .unit))) (.pair (.sl 2 (.int .i64)) (.pair (.int .i64) .unit))), (.pr (.pr (.own .imm) .imm) (.pr (.own .imm) .imm)), r⟩] []) = some y := h
  clear h
  obtain ⟨x0, rfl, h1⟩ := castDm_eq h0
  obtain ⟨x1, rfl, h2⟩ := castDm_eq h1
  exact con_fin (spec_CompPut.b N x0 x1) h2
theorem spec_CompPut.det (N : Nat) : ConDet (spec_CompPut.con N) := by
  intro ds R k y h
  cases ds with
  | nil => exact none_some h
  | cons d0 ds =>
  cases ds with
  | nil => exact none_some h
  | cons d1 ds =>
  cases ds with
  | cons _ _ => exact none_some h
  | nil =>
  have h0 : (castDm (.pair (.sl 2 (.int .i64)) (.pair (.int .i64) (.pair (.int .i64) .unit))) .imm d0 fun x0 => castDm (.sl 23 (.sl 2 (.int .i64))) .imm d1 fun x1 => bindO (spec_CompPut N x0 x1) fun r => k [⟨(.pair (.pair (.sl 2 (.int .i64)) (.pair (.int .i64) (.pair (.int .i64) .unit))) (.pair (.sl 2 (.int .i64)) (.pair (.int .i64) .unit))), (.pr (.pr (.own .imm) .imm) (.pr (.own .imm) .imm)), r⟩] []) = some y := h
  clear h
  obtain ⟨x0, rfl, h1⟩ := castDm_eq h0
  obtain ⟨x1, rfl, h2⟩ := castDm_eq h1
  obtain ⟨r, e, h⟩ := bindO_some h2
  refine ⟨_, _, h, fun k' => ?_⟩
  show (castDm (.pair (.sl 2 (.int .i64)) (.pair (.int .i64) (.pair (.int .i64) .unit))) .imm (⟨(.pair (.sl 2 (.int .i64)) (.pair (.int .i64) (.pair (.int .i64) .unit))), .imm, x0⟩ : Dy) fun x0 => castDm (.sl 23 (.sl 2 (.int .i64))) .imm (⟨(.sl 23 (.sl 2 (.int .i64))), .imm, x1⟩ : Dy) fun x1 => bindO (spec_CompPut N x0 x1) fun r => k' [⟨(.pair (.pair (.sl 2 (.int .i64)) (.pair (.int .i64) (.pair (.int .i64) .unit))) (.pair (.sl 2 (.int .i64)) (.pair (.int .i64) .unit))), (.pr (.pr (.own .imm) .imm) (.pr (.own .imm) .imm)), r⟩] []) = _
  simp only [castDm_self]
  rw [e]
  rfl
noncomputable def laws_lwCopy.con (N : Nat) : Con := { modes := [.v], ptrs := [false], fn := fun ds k => match ds with | [d0] => castDm (.sl 2 (.int .i64)) .imm d0 fun x0 => bindO (laws_lwCopy N x0) fun r => k [⟨(.sl 2 (.int .i64)), (.own .imm), r⟩] [] | _ => none }
noncomputable def laws_lwCopy.cfg (N : Nat) : Cfg := { ty := tys, keep := [], flt := [], elm := [(22, (.own .imm)), (23, (.own .imm)), (24, (.pr (.own .imm) .imm)), (25, (.pr (.own .imm) .imm)), (26, (.own (.own .imm))), (29, (.pr (.pr (.own .imm) .imm) (.pr (.own .imm) .imm))), (30, (.pr (.pr (.own .imm) .imm) (.pr (.own .imm) .imm))), (54, (.pr (.own .imm) .imm)), (55, (.pr (.own .imm) .imm)), (61, (.own .imm))], live := [], ord := [], con := [], loops := [], joins := [] }
theorem laws_lwCopy.cons (N : Nat) : ConsOk Try.prog (laws_lwCopy.cfg N).con := consOk_nil
theorem laws_lwCopy.ls (N : Nat) : LoopsOk Try.prog (laws_lwCopy.cfg N) (fnBody Try.f10) := loopsL (l := []) (by kernel_rfl) trivial
theorem laws_lwCopy.b (N : Nat) (x0 : den (.sl 2 (.int .i64))) : body (laws_lwCopy.cfg N) N Try.f10 [.one] [.v] [(false, (.own .imm))] [⟨(.sl 2 (.int .i64)), .imm, x0⟩] (fun r i => some (r, i)) = bindO (laws_lwCopy N x0) fun r => some ([⟨(.sl 2 (.int .i64)), (.own .imm), r⟩], []) := by
  show _ = bindF _ _
  conv => rhs; simp only [laws_lwCopy, bindF_ifB, bindF_bindO, bindF_pure, bindF_none, bindF_onSum]
  kernel_rfl
theorem laws_lwCopy.ok (N : Nat) : ConOk Try.prog 10 [.one] (laws_lwCopy.con N) := by
  refine conOk_mk (g := laws_lwCopy.cfg N) (N := N) (res := [(false, (.own .imm))]) tys_ok (laws_lwCopy.cons N) mixed Try.func10 (laws_lwCopy.ls N) rfl rfl ?_
  intro ds R k y h
  cases ds with
  | nil => exact none_some h
  | cons d0 ds =>
  cases ds with
  | cons _ _ => exact none_some h
  | nil =>
  have h0 : (castDm (.sl 2 (.int .i64)) .imm d0 fun x0 => bindO (laws_lwCopy N x0) fun r => k [⟨(.sl 2 (.int .i64)), (.own .imm), r⟩] []) = some y := h
  clear h
  obtain ⟨x0, rfl, h1⟩ := castDm_eq h0
  exact con_fin (laws_lwCopy.b N x0) h1
theorem laws_lwCopy.det (N : Nat) : ConDet (laws_lwCopy.con N) := by
  intro ds R k y h
  cases ds with
  | nil => exact none_some h
  | cons d0 ds =>
  cases ds with
  | cons _ _ => exact none_some h
  | nil =>
  have h0 : (castDm (.sl 2 (.int .i64)) .imm d0 fun x0 => bindO (laws_lwCopy N x0) fun r => k [⟨(.sl 2 (.int .i64)), (.own .imm), r⟩] []) = some y := h
  clear h
  obtain ⟨x0, rfl, h1⟩ := castDm_eq h0
  obtain ⟨r, e, h⟩ := bindO_some h1
  refine ⟨_, _, h, fun k' => ?_⟩
  show (castDm (.sl 2 (.int .i64)) .imm (⟨(.sl 2 (.int .i64)), .imm, x0⟩ : Dy) fun x0 => bindO (laws_lwCopy N x0) fun r => k' [⟨(.sl 2 (.int .i64)), (.own .imm), r⟩] []) = _
  simp only [castDm_self]
  rw [e]
  rfl
def laws_lwAll.sk3 : Skel := ⟨[.pv (.sl 23 (.sl 2 (.int .i64))), .dead, .dead, .ov 50 [], .pv (.int .i64), .dead, .dead, .dead, .dead, .dead, .dead, .dead, .dead, .dead, .dead, .dead, .dead, .dead, .dead, .dead, .dead], [⟨50, (.sl 23 (.sl 2 (.int .i64))), (.own (.own .imm)), false, false⟩]⟩
def laws_lwAll.xs3 : List XS := [⟨.exit 0, [3], ⟨[.dead, .dead, .dead, .ov 50 [], .dead, .dead, .dead, .dead, .dead, .dead, .dead, .dead, .dead, .dead, .dead, .dead, .dead, .dead, .dead, .dead, .dead], [⟨50, (.sl 23 (.sl 2 (.int .i64))), (.own (.own .imm)), false, false⟩]⟩⟩]
noncomputable def laws_lwAll.con (N : Nat) : Con := { modes := [.v], ptrs := [false], fn := fun ds k => match ds with | [d0] => castDm (.sl 23 (.sl 2 (.int .i64))) .imm d0 fun x0 => bindO (laws_lwAll N x0) fun r => k [⟨(.sl 23 (.sl 2 (.int .i64))), (.own (.own .imm)), r⟩] [] | _ => none }
noncomputable def laws_lwAll.cfg (N : Nat) : Cfg := { ty := tys, keep := [17], flt := [], elm := [(22, (.own .imm)), (23, (.own .imm)), (24, (.pr (.own .imm) .imm)), (25, (.pr (.own .imm) .imm)), (26, (.own (.own .imm))), (29, (.pr (.pr (.own .imm) .imm) (.pr (.own .imm) .imm))), (30, (.pr (.pr (.own .imm) .imm) (.pr (.own .imm) .imm))), (54, (.pr (.own .imm) .imm)), (55, (.pr (.own .imm) .imm)), (61, (.own .imm))], live := [(3, [0, 3, 4])], ord := [], con := [((10, [.one]), laws_lwCopy.con N)], loops := [(3, loopCon N laws_lwAll.sk3 laws_lwAll.xs3 (fun {R} => laws_lwAll.l3 (R := R) N))], joins := [] }
theorem laws_lwAll.cons (N : Nat) : ConsOk Try.prog (laws_lwAll.cfg N).con := (consOk_cons (hb10) (laws_lwCopy.ok N) (laws_lwCopy.det N) consOk_nil)
theorem laws_lwAll.h3 {R : Type} (N : Nat) (d : laws_lwAll.sk3.D) (kn : laws_lwAll.sk3.D → Option R) (kx : XD laws_lwAll.xs3 → Option R) : roundK (laws_lwAll.cfg N) N (nthLoop (fnBody Try.f7) 0) laws_lwAll.sk3 laws_lwAll.xs3 d kn kx = laws_lwAll.l3 N d kn kx := by kernel_rfl
theorem laws_lwAll.i3 (N : Nat) : LoopsOk Try.prog (laws_lwAll.cfg N) (nthLoop (fnBody Try.f7) 0) := loopsL (l := []) (by kernel_rfl) trivial
theorem laws_lwAll.o3 (N : Nat) : LoopOk Try.prog (nthLoop (fnBody Try.f7) 0) (loopCon N laws_lwAll.sk3 laws_lwAll.xs3 (fun {R} => laws_lwAll.l3 (R := R) N)) := loop_ok (g := laws_lwAll.cfg N) tys_ok (laws_lwAll.cons N) mixed (laws_lwAll.i3 N) (fun d kn kx => laws_lwAll.h3 N d kn kx)
theorem laws_lwAll.ls (N : Nat) : LoopsOk Try.prog (laws_lwAll.cfg N) (fnBody Try.f7) := loopsL (l := [nthLoop (fnBody Try.f7) 0]) (by kernel_rfl) ⟨loopOne (L0 := loopCon N laws_lwAll.sk3 laws_lwAll.xs3 (fun {R} => laws_lwAll.l3 (R := R) N)) (id := 3) (by kernel_rfl) (by kernel_rfl) (laws_lwAll.o3 N), trivial⟩
theorem laws_lwAll.q3 {R R' : Type} {N n : Nat} {d} {k} {g : R → Option R'} : bindF (loopP (laws_lwAll.l3 N) n d k) g = loopP (laws_lwAll.l3 N) n d fun e => bindF (k e) g := bindF_loopP (fun d kn kx => by simp only [laws_lwAll.l3, bindF_ifB, bindF_bindO, bindF_pure, bindF_none, bindF_onSum]) n d k
theorem laws_lwAll.b (N : Nat) (x0 : den (.sl 23 (.sl 2 (.int .i64)))) : body (laws_lwAll.cfg N) N Try.f7 [.one] [.v] [(false, (.own (.own .imm)))] [⟨(.sl 23 (.sl 2 (.int .i64))), .imm, x0⟩] (fun r i => some (r, i)) = bindO (laws_lwAll N x0) fun r => some ([⟨(.sl 23 (.sl 2 (.int .i64))), (.own (.own .imm)), r⟩], []) := by
  show _ = bindF _ _
  conv => rhs; simp only [laws_lwAll, bindF_ifB, bindF_bindO, bindF_pure, bindF_none, bindF_onSum, laws_lwAll.q3]
  kernel_rfl
theorem laws_lwAll.ok (N : Nat) : ConOk Try.prog 7 [.one] (laws_lwAll.con N) := by
  refine conOk_mk (g := laws_lwAll.cfg N) (N := N) (res := [(false, (.own (.own .imm)))]) tys_ok (laws_lwAll.cons N) mixed Try.func7 (laws_lwAll.ls N) rfl rfl ?_
  intro ds R k y h
  cases ds with
  | nil => exact none_some h
  | cons d0 ds =>
  cases ds with
  | cons _ _ => exact none_some h
  | nil =>
  have h0 : (castDm (.sl 23 (.sl 2 (.int .i64))) .imm d0 fun x0 => bindO (laws_lwAll N x0) fun r => k [⟨(.sl 23 (.sl 2 (.int .i64))), (.own (.own .imm)), r⟩] []) = some y := h
  clear h
  obtain ⟨x0, rfl, h1⟩ := castDm_eq h0
  exact con_fin (laws_lwAll.b N x0) h1
theorem laws_lwAll.det (N : Nat) : ConDet (laws_lwAll.con N) := by
  intro ds R k y h
  cases ds with
  | nil => exact none_some h
  | cons d0 ds =>
  cases ds with
  | cons _ _ => exact none_some h
  | nil =>
  have h0 : (castDm (.sl 23 (.sl 2 (.int .i64))) .imm d0 fun x0 => bindO (laws_lwAll N x0) fun r => k [⟨(.sl 23 (.sl 2 (.int .i64))), (.own (.own .imm)), r⟩] []) = some y := h
  clear h
  obtain ⟨x0, rfl, h1⟩ := castDm_eq h0
  obtain ⟨r, e, h⟩ := bindO_some h1
  refine ⟨_, _, h, fun k' => ?_⟩
  show (castDm (.sl 23 (.sl 2 (.int .i64))) .imm (⟨(.sl 23 (.sl 2 (.int .i64))), .imm, x0⟩ : Dy) fun x0 => bindO (laws_lwAll N x0) fun r => k' [⟨(.sl 23 (.sl 2 (.int .i64))), (.own (.own .imm)), r⟩] []) = _
  simp only [castDm_self]
  rw [e]
  rfl
noncomputable def impl_isMany.con (N : Nat) : Con := { modes := [.v], ptrs := [false], fn := fun ds k => match ds with | [d0] => castDm (.int .i64) .imm d0 fun x0 => bindO (impl_isMany N x0) fun r => k [⟨.bool, .imm, r⟩] [] | _ => none }
noncomputable def impl_isMany.cfg (N : Nat) : Cfg := { ty := tys, keep := [], flt := [], elm := [(22, (.own .imm)), (23, (.own .imm)), (24, (.pr (.own .imm) .imm)), (25, (.pr (.own .imm) .imm)), (26, (.own (.own .imm))), (29, (.pr (.pr (.own .imm) .imm) (.pr (.own .imm) .imm))), (30, (.pr (.pr (.own .imm) .imm) (.pr (.own .imm) .imm))), (54, (.pr (.own .imm) .imm)), (55, (.pr (.own .imm) .imm)), (61, (.own .imm))], live := [], ord := [], con := [], loops := [], joins := [] }
theorem impl_isMany.cons (N : Nat) : ConsOk Try.prog (impl_isMany.cfg N).con := consOk_nil
theorem impl_isMany.ls (N : Nat) : LoopsOk Try.prog (impl_isMany.cfg N) (fnBody Try.f25) := loopsL (l := []) (by kernel_rfl) trivial
theorem impl_isMany.b (N : Nat) (x0 : den (.int .i64)) : body (impl_isMany.cfg N) N Try.f25 [.one] [.v] [(false, .imm)] [⟨(.int .i64), .imm, x0⟩] (fun r i => some (r, i)) = bindO (impl_isMany N x0) fun r => some ([⟨.bool, .imm, r⟩], []) := by
  show _ = bindF _ _
  conv => rhs; simp only [impl_isMany, bindF_ifB, bindF_bindO, bindF_pure, bindF_none, bindF_onSum]
  kernel_rfl
theorem impl_isMany.ok (N : Nat) : ConOk Try.prog 25 [.one] (impl_isMany.con N) := by
  refine conOk_mk (g := impl_isMany.cfg N) (N := N) (res := [(false, .imm)]) tys_ok (impl_isMany.cons N) mixed Try.func25 (impl_isMany.ls N) rfl rfl ?_
  intro ds R k y h
  cases ds with
  | nil => exact none_some h
  | cons d0 ds =>
  cases ds with
  | cons _ _ => exact none_some h
  | nil =>
  have h0 : (castDm (.int .i64) .imm d0 fun x0 => bindO (impl_isMany N x0) fun r => k [⟨.bool, .imm, r⟩] []) = some y := h
  clear h
  obtain ⟨x0, rfl, h1⟩ := castDm_eq h0
  exact con_fin (impl_isMany.b N x0) h1
theorem impl_isMany.det (N : Nat) : ConDet (impl_isMany.con N) := by
  intro ds R k y h
  cases ds with
  | nil => exact none_some h
  | cons d0 ds =>
  cases ds with
  | cons _ _ => exact none_some h
  | nil =>
  have h0 : (castDm (.int .i64) .imm d0 fun x0 => bindO (impl_isMany N x0) fun r => k [⟨.bool, .imm, r⟩] []) = some y := h
  clear h
  obtain ⟨x0, rfl, h1⟩ := castDm_eq h0
  obtain ⟨r, e, h⟩ := bindO_some h1
  refine ⟨_, _, h, fun k' => ?_⟩
  show (castDm (.int .i64) .imm (⟨(.int .i64), .imm, x0⟩ : Dy) fun x0 => bindO (impl_isMany N x0) fun r => k' [⟨.bool, .imm, r⟩] []) = _
  simp only [castDm_self]
  rw [e]
  rfl
noncomputable def impl_within.con (N : Nat) : Con := { modes := [.v, .v, .v], ptrs := [false], fn := fun ds k => match ds with | [d0, d1, d2] => castDm (.int .i64) .imm d0 fun x0 => castDm (.int .i64) .imm d1 fun x1 => castDm (.int .i64) .imm d2 fun x2 => bindO (impl_within N x0 x1 x2) fun r => k [⟨.bool, .imm, r⟩] [] | _ => none }
noncomputable def impl_within.cfg (N : Nat) : Cfg := { ty := tys, keep := [], flt := [], elm := [(22, (.own .imm)), (23, (.own .imm)), (24, (.pr (.own .imm) .imm)), (25, (.pr (.own .imm) .imm)), (26, (.own (.own .imm))), (29, (.pr (.pr (.own .imm) .imm) (.pr (.own .imm) .imm))), (30, (.pr (.pr (.own .imm) .imm) (.pr (.own .imm) .imm))), (54, (.pr (.own .imm) .imm)), (55, (.pr (.own .imm) .imm)), (61, (.own .imm))], live := [], ord := [], con := [], loops := [], joins := [] }
theorem impl_within.cons (N : Nat) : ConsOk Try.prog (impl_within.cfg N).con := consOk_nil
theorem impl_within.ls (N : Nat) : LoopsOk Try.prog (impl_within.cfg N) (fnBody Try.f49) := loopsL (l := []) (by kernel_rfl) trivial
theorem impl_within.b (N : Nat) (x0 : den (.int .i64)) (x1 : den (.int .i64)) (x2 : den (.int .i64)) : body (impl_within.cfg N) N Try.f49 [.one, .one, .one] [.v, .v, .v] [(false, .imm)] [⟨(.int .i64), .imm, x0⟩, ⟨(.int .i64), .imm, x1⟩, ⟨(.int .i64), .imm, x2⟩] (fun r i => some (r, i)) = bindO (impl_within N x0 x1 x2) fun r => some ([⟨.bool, .imm, r⟩], []) := by
  show _ = bindF _ _
  conv => rhs; simp only [impl_within, bindF_ifB, bindF_bindO, bindF_pure, bindF_none, bindF_onSum]
  kernel_rfl
theorem impl_within.ok (N : Nat) : ConOk Try.prog 49 [.one, .one, .one] (impl_within.con N) := by
  refine conOk_mk (g := impl_within.cfg N) (N := N) (res := [(false, .imm)]) tys_ok (impl_within.cons N) mixed Try.func49 (impl_within.ls N) rfl rfl ?_
  intro ds R k y h
  cases ds with
  | nil => exact none_some h
  | cons d0 ds =>
  cases ds with
  | nil => exact none_some h
  | cons d1 ds =>
  cases ds with
  | nil => exact none_some h
  | cons d2 ds =>
  cases ds with
  | cons _ _ => exact none_some h
  | nil =>
  have h0 : (castDm (.int .i64) .imm d0 fun x0 => castDm (.int .i64) .imm d1 fun x1 => castDm (.int .i64) .imm d2 fun x2 => bindO (impl_within N x0 x1 x2) fun r => k [⟨.bool, .imm, r⟩] []) = some y := h
  clear h
  obtain ⟨x0, rfl, h1⟩ := castDm_eq h0
  obtain ⟨x1, rfl, h2⟩ := castDm_eq h1
  obtain ⟨x2, rfl, h3⟩ := castDm_eq h2
  exact con_fin (impl_within.b N x0 x1 x2) h3
theorem impl_within.det (N : Nat) : ConDet (impl_within.con N) := by
  intro ds R k y h
  cases ds with
  | nil => exact none_some h
  | cons d0 ds =>
  cases ds with
  | nil => exact none_some h
  | cons d1 ds =>
  cases ds with
  | nil => exact none_some h
  | cons d2 ds =>
  cases ds with
  | cons _ _ => exact none_some h
  | nil =>
  have h0 : (castDm (.int .i64) .imm d0 fun x0 => castDm (.int .i64) .imm d1 fun x1 => castDm (.int .i64) .imm d2 fun x2 => bindO (impl_within N x0 x1 x2) fun r => k [⟨.bool, .imm, r⟩] []) = some y := h
  clear h
  obtain ⟨x0, rfl, h1⟩ := castDm_eq h0
  obtain ⟨x1, rfl, h2⟩ := castDm_eq h1
  obtain ⟨x2, rfl, h3⟩ := castDm_eq h2
  obtain ⟨r, e, h⟩ := bindO_some h3
  refine ⟨_, _, h, fun k' => ?_⟩
  show (castDm (.int .i64) .imm (⟨(.int .i64), .imm, x0⟩ : Dy) fun x0 => castDm (.int .i64) .imm (⟨(.int .i64), .imm, x1⟩ : Dy) fun x1 => castDm (.int .i64) .imm (⟨(.int .i64), .imm, x2⟩ : Dy) fun x2 => bindO (impl_within N x0 x1 x2) fun r => k' [⟨.bool, .imm, r⟩] []) = _
  simp only [castDm_self]
  rw [e]
  rfl
noncomputable def impl_isPoint.con (N : Nat) : Con := { modes := [.v], ptrs := [false], fn := fun ds k => match ds with | [d0] => castDm (.int .i64) .imm d0 fun x0 => bindO (impl_isPoint N x0) fun r => k [⟨.bool, .imm, r⟩] [] | _ => none }
noncomputable def impl_isPoint.cfg (N : Nat) : Cfg := { ty := tys, keep := [4, 7], flt := [], elm := [(22, (.own .imm)), (23, (.own .imm)), (24, (.pr (.own .imm) .imm)), (25, (.pr (.own .imm) .imm)), (26, (.own (.own .imm))), (29, (.pr (.pr (.own .imm) .imm) (.pr (.own .imm) .imm))), (30, (.pr (.pr (.own .imm) .imm) (.pr (.own .imm) .imm))), (54, (.pr (.own .imm) .imm)), (55, (.pr (.own .imm) .imm)), (61, (.own .imm))], live := [], ord := [], con := [((49, [.one, .one, .one]), impl_within.con N)], loops := [], joins := [] }
theorem impl_isPoint.cons (N : Nat) : ConsOk Try.prog (impl_isPoint.cfg N).con := (consOk_cons (hb49) (impl_within.ok N) (impl_within.det N) consOk_nil)
theorem impl_isPoint.ls (N : Nat) : LoopsOk Try.prog (impl_isPoint.cfg N) (fnBody Try.f60) := loopsL (l := []) (by kernel_rfl) trivial
theorem impl_isPoint.b (N : Nat) (x0 : den (.int .i64)) : body (impl_isPoint.cfg N) N Try.f60 [.one] [.v] [(false, .imm)] [⟨(.int .i64), .imm, x0⟩] (fun r i => some (r, i)) = bindO (impl_isPoint N x0) fun r => some ([⟨.bool, .imm, r⟩], []) := by
  show _ = bindF _ _
  conv => rhs; simp only [impl_isPoint, bindF_ifB, bindF_bindO, bindF_pure, bindF_none, bindF_onSum]
  kernel_rfl
theorem impl_isPoint.ok (N : Nat) : ConOk Try.prog 60 [.one] (impl_isPoint.con N) := by
  refine conOk_mk (g := impl_isPoint.cfg N) (N := N) (res := [(false, .imm)]) tys_ok (impl_isPoint.cons N) mixed Try.func60 (impl_isPoint.ls N) rfl rfl ?_
  intro ds R k y h
  cases ds with
  | nil => exact none_some h
  | cons d0 ds =>
  cases ds with
  | cons _ _ => exact none_some h
  | nil =>
  have h0 : (castDm (.int .i64) .imm d0 fun x0 => bindO (impl_isPoint N x0) fun r => k [⟨.bool, .imm, r⟩] []) = some y := h
  clear h
  obtain ⟨x0, rfl, h1⟩ := castDm_eq h0
  exact con_fin (impl_isPoint.b N x0) h1
theorem impl_isPoint.det (N : Nat) : ConDet (impl_isPoint.con N) := by
  intro ds R k y h
  cases ds with
  | nil => exact none_some h
  | cons d0 ds =>
  cases ds with
  | cons _ _ => exact none_some h
  | nil =>
  have h0 : (castDm (.int .i64) .imm d0 fun x0 => bindO (impl_isPoint N x0) fun r => k [⟨.bool, .imm, r⟩] []) = some y := h
  clear h
  obtain ⟨x0, rfl, h1⟩ := castDm_eq h0
  obtain ⟨r, e, h⟩ := bindO_some h1
  refine ⟨_, _, h, fun k' => ?_⟩
  show (castDm (.int .i64) .imm (⟨(.int .i64), .imm, x0⟩ : Dy) fun x0 => bindO (impl_isPoint N x0) fun r => k' [⟨.bool, .imm, r⟩] []) = _
  simp only [castDm_self]
  rw [e]
  rfl
noncomputable def impl_PointsRight_c1.con (N : Nat) : Con := { modes := [.v], ptrs := [false], fn := fun ds k => match ds with | [d0] => castDm (.int .i64) .imm d0 fun x0 => bindO (impl_PointsRight_c1 N x0) fun r => k [⟨.bool, .imm, r⟩] [] | _ => none }
noncomputable def impl_PointsRight_c1.cfg (N : Nat) : Cfg := { ty := tys, keep := [4], flt := [], elm := [(22, (.own .imm)), (23, (.own .imm)), (24, (.pr (.own .imm) .imm)), (25, (.pr (.own .imm) .imm)), (26, (.own (.own .imm))), (29, (.pr (.pr (.own .imm) .imm) (.pr (.own .imm) .imm))), (30, (.pr (.pr (.own .imm) .imm) (.pr (.own .imm) .imm))), (54, (.pr (.own .imm) .imm)), (55, (.pr (.own .imm) .imm)), (61, (.own .imm))], live := [], ord := [], con := [((60, [.one]), impl_isPoint.con N)], loops := [], joins := [] }
theorem impl_PointsRight_c1.cons (N : Nat) : ConsOk Try.prog (impl_PointsRight_c1.cfg N).con := (consOk_cons (hb60) (impl_isPoint.ok N) (impl_isPoint.det N) consOk_nil)
theorem impl_PointsRight_c1.ls (N : Nat) : LoopsOk Try.prog (impl_PointsRight_c1.cfg N) (fnBody Try.f59) := loopsL (l := []) (by kernel_rfl) trivial
theorem impl_PointsRight_c1.b (N : Nat) (x0 : den (.int .i64)) : body (impl_PointsRight_c1.cfg N) N Try.f59 [.one] [.v] [(false, .imm)] [⟨(.int .i64), .imm, x0⟩] (fun r i => some (r, i)) = bindO (impl_PointsRight_c1 N x0) fun r => some ([⟨.bool, .imm, r⟩], []) := by
  show _ = bindF _ _
  conv => rhs; simp only [impl_PointsRight_c1, bindF_ifB, bindF_bindO, bindF_pure, bindF_none, bindF_onSum]
  kernel_rfl
theorem impl_PointsRight_c1.ok (N : Nat) : ConOk Try.prog 59 [.one] (impl_PointsRight_c1.con N) := by
  refine conOk_mk (g := impl_PointsRight_c1.cfg N) (N := N) (res := [(false, .imm)]) tys_ok (impl_PointsRight_c1.cons N) mixed Try.func59 (impl_PointsRight_c1.ls N) rfl rfl ?_
  intro ds R k y h
  cases ds with
  | nil => exact none_some h
  | cons d0 ds =>
  cases ds with
  | cons _ _ => exact none_some h
  | nil =>
  have h0 : (castDm (.int .i64) .imm d0 fun x0 => bindO (impl_PointsRight_c1 N x0) fun r => k [⟨.bool, .imm, r⟩] []) = some y := h
  clear h
  obtain ⟨x0, rfl, h1⟩ := castDm_eq h0
  exact con_fin (impl_PointsRight_c1.b N x0) h1
theorem impl_PointsRight_c1.det (N : Nat) : ConDet (impl_PointsRight_c1.con N) := by
  intro ds R k y h
  cases ds with
  | nil => exact none_some h
  | cons d0 ds =>
  cases ds with
  | cons _ _ => exact none_some h
  | nil =>
  have h0 : (castDm (.int .i64) .imm d0 fun x0 => bindO (impl_PointsRight_c1 N x0) fun r => k [⟨.bool, .imm, r⟩] []) = some y := h
  clear h
  obtain ⟨x0, rfl, h1⟩ := castDm_eq h0
  obtain ⟨r, e, h⟩ := bindO_some h1
  refine ⟨_, _, h, fun k' => ?_⟩
  show (castDm (.int .i64) .imm (⟨(.int .i64), .imm, x0⟩ : Dy) fun x0 => bindO (impl_PointsRight_c1 N x0) fun r => k' [⟨.bool, .imm, r⟩] []) = _
  simp only [castDm_self]
  rw [e]
  rfl
end Go.AE.F
