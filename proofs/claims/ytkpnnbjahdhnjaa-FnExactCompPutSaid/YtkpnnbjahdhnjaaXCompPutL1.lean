/- The printed functions are what the program comes to: contracts. -/
import Derived.Test.YtkpnnbjahdhnjaaXCompPutL0
namespace Go.AE.F
open Go.AE Go.Proofs
set_option maxRecDepth 100000
noncomputable def spec_l01Copy.con (N : Nat) : Con := { modes := [.v], ptrs := [false], fn := fun ds k => match ds with | [d0] => castDm (.sl 2 (.int .i64)) .imm d0 fun x0 => bindO (spec_l01Copy N x0) fun r => k [⟨(.sl 2 (.int .i64)), (.own .imm), r⟩] [] | _ => none }
noncomputable def spec_l01Copy.cfg (N : Nat) : Cfg := { ty := tys, keep := [], flt := [], elm := [(22, (.own .imm)), (23, (.pr (.own .imm) .imm)), (24, (.pr (.own .imm) .imm)), (25, (.own (.own .imm))), (28, (.pr (.own .imm) .imm)), (29, (.pr (.pr (.own .imm) .imm) (.pr (.own .imm) .imm))), (30, (.pr (.pr (.own .imm) .imm) (.pr (.own .imm) .imm)))], live := [], ord := [], con := [], loops := [], joins := [] }
theorem spec_l01Copy.cons (N : Nat) : ConsOk Try.prog (spec_l01Copy.cfg N).con := consOk_nil
theorem spec_l01Copy.ls (N : Nat) : LoopsOk Try.prog (spec_l01Copy.cfg N) (fnBody Try.f22) := loopsL (l := []) (by kernel_rfl) trivial
theorem spec_l01Copy.b (N : Nat) (x0 : den (.sl 2 (.int .i64))) : body (spec_l01Copy.cfg N) N Try.f22 [.one] [.v] [(false, (.own .imm))] [⟨(.sl 2 (.int .i64)), .imm, x0⟩] (fun r i => some (r, i)) = bindO (spec_l01Copy N x0) fun r => some ([⟨(.sl 2 (.int .i64)), (.own .imm), r⟩], []) := by
  show _ = bindF _ _
  conv => rhs; simp only [spec_l01Copy, bindF_ifB, bindF_bindO, bindF_pure, bindF_none, bindF_onSum]
  kernel_rfl
theorem spec_l01Copy.ok (N : Nat) : ConOk Try.prog 22 [.one] (spec_l01Copy.con N) := by
  refine conOk_mk (g := spec_l01Copy.cfg N) (N := N) (res := [(false, (.own .imm))]) tys_ok (spec_l01Copy.cons N) mixed Try.func22 (spec_l01Copy.ls N) rfl rfl ?_
  intro ds R k y h
  cases ds with
  | nil => exact none_some h
  | cons d0 ds =>
  cases ds with
  | cons _ _ => exact none_some h
  | nil =>
  have h0 : (castDm (.sl 2 (.int .i64)) .imm d0 fun x0 => bindO (spec_l01Copy N x0) fun r => k [⟨(.sl 2 (.int .i64)), (.own .imm), r⟩] []) = some y := h
  clear h
  obtain ⟨x0, rfl, h1⟩ := castDm_eq h0
  exact con_fin (spec_l01Copy.b N x0) h1
theorem spec_l01Copy.det (N : Nat) : ConDet (spec_l01Copy.con N) := by
  intro ds R k y h
  cases ds with
  | nil => exact none_some h
  | cons d0 ds =>
  cases ds with
  | cons _ _ => exact none_some h
  | nil =>
  have h0 : (castDm (.sl 2 (.int .i64)) .imm d0 fun x0 => bindO (spec_l01Copy N x0) fun r => k [⟨(.sl 2 (.int .i64)), (.own .imm), r⟩] []) = some y := h
  clear h
  obtain ⟨x0, rfl, h1⟩ := castDm_eq h0
  obtain ⟨r, e, h⟩ := bindO_some h1
  refine ⟨_, _, h, fun k' => ?_⟩
  show (castDm (.sl 2 (.int .i64)) .imm (⟨(.sl 2 (.int .i64)), .imm, x0⟩ : Dy) fun x0 => bindO (spec_l01Copy N x0) fun r => k' [⟨(.sl 2 (.int .i64)), (.own .imm), r⟩] []) = _
  simp only [castDm_self]
  rw [e]
  rfl
noncomputable def spec_WordAhead.con (N : Nat) : Con := { modes := [.v], ptrs := [false], fn := fun ds k => match ds with | [d0] => castDm (.pair (.sl 2 (.int .i64)) (.pair (.int .i64) (.pair (.int .i64) .unit))) .imm d0 fun x0 => bindO (spec_WordAhead N x0) fun r => k [⟨(.sl 2 (.int .i64)), (.own .imm), r⟩] [] | _ => none }
noncomputable def spec_WordAhead.cfg (N : Nat) : Cfg := { ty := tys, keep := [4, 10, 14], flt := [], elm := [(22, (.own .imm)), (23, (.pr (.own .imm) .imm)), (24, (.pr (.own .imm) .imm)), (25, (.own (.own .imm))), (28, (.pr (.own .imm) .imm)), (29, (.pr (.pr (.own .imm) .imm) (.pr (.own .imm) .imm))), (30, (.pr (.pr (.own .imm) .imm) (.pr (.own .imm) .imm)))], live := [], ord := [(3, [0, 1, 2, 4, 5, 3, 6, 7, 8])], con := [((18, [.one]), spec_BufRight.con N), ((40, [.one]), spec_l15Word.con N), ((22, [.one]), spec_l01Copy.con N)], loops := [], joins := [] }
theorem spec_WordAhead.cons (N : Nat) : ConsOk Try.prog (spec_WordAhead.cfg N).con := (consOk_cons (hb18) (spec_BufRight.ok N) (spec_BufRight.det N) (consOk_cons (hb40) (spec_l15Word.ok N) (spec_l15Word.det N) (consOk_cons (hb22) (spec_l01Copy.ok N) (spec_l01Copy.det N) consOk_nil)))
theorem spec_WordAhead.ls (N : Nat) : LoopsOk Try.prog (spec_WordAhead.cfg N) (fnBody Try.f20) := loopsL (l := []) (by kernel_rfl) trivial
theorem spec_WordAhead.b (N : Nat) (x0 : den (.pair (.sl 2 (.int .i64)) (.pair (.int .i64) (.pair (.int .i64) .unit)))) : body (spec_WordAhead.cfg N) N Try.f20 [.one] [.v] [(false, (.own .imm))] [⟨(.pair (.sl 2 (.int .i64)) (.pair (.int .i64) (.pair (.int .i64) .unit))), .imm, x0⟩] (fun r i => some (r, i)) = bindO (spec_WordAhead N x0) fun r => some ([⟨(.sl 2 (.int .i64)), (.own .imm), r⟩], []) := by
  show _ = bindF _ _
  conv => rhs; simp only [spec_WordAhead, bindF_ifB, bindF_bindO, bindF_pure, bindF_none, bindF_onSum]
  kernel_rfl
theorem spec_WordAhead.ok (N : Nat) : ConOk Try.prog 20 [.one] (spec_WordAhead.con N) := by
  refine conOk_mk (g := spec_WordAhead.cfg N) (N := N) (res := [(false, (.own .imm))]) tys_ok (spec_WordAhead.cons N) mixed Try.func20 (spec_WordAhead.ls N) rfl rfl ?_
  intro ds R k y h
  cases ds with
  | nil => exact none_some h
  | cons d0 ds =>
  cases ds with
  | cons _ _ => exact none_some h
  | nil =>
  have h0 : (castDm (.pair (.sl 2 (.int .i64)) (.pair (.int .i64) (.pair (.int .i64) .unit))) .imm d0 fun x0 => bindO (spec_WordAhead N x0) fun r => k [⟨(.sl 2 (.int .i64)), (.own .imm), r⟩] []) = some y := h
  clear h
  obtain ⟨x0, rfl, h1⟩ := castDm_eq h0
  exact con_fin (spec_WordAhead.b N x0) h1
theorem spec_WordAhead.det (N : Nat) : ConDet (spec_WordAhead.con N) := by
  intro ds R k y h
  cases ds with
  | nil => exact none_some h
  | cons d0 ds =>
  cases ds with
  | cons _ _ => exact none_some h
  | nil =>
  have h0 : (castDm (.pair (.sl 2 (.int .i64)) (.pair (.int .i64) (.pair (.int .i64) .unit))) .imm d0 fun x0 => bindO (spec_WordAhead N x0) fun r => k [⟨(.sl 2 (.int .i64)), (.own .imm), r⟩] []) = some y := h
  clear h
  obtain ⟨x0, rfl, h1⟩ := castDm_eq h0
  obtain ⟨r, e, h⟩ := bindO_some h1
  refine ⟨_, _, h, fun k' => ?_⟩
  show (castDm (.pair (.sl 2 (.int .i64)) (.pair (.int .i64) (.pair (.int .i64) .unit))) .imm (⟨(.pair (.sl 2 (.int .i64)) (.pair (.int .i64) (.pair (.int .i64) .unit))), .imm, x0⟩ : Dy) fun x0 => bindO (spec_WordAhead N x0) fun r => k' [⟨(.sl 2 (.int .i64)), (.own .imm), r⟩] []) = _
  simp only [castDm_self]
  rw [e]
  rfl
def spec_l01Same.sk4 : Skel := ⟨[.pv (.sl 2 (.int .i64)), .pv (.sl 2 (.int .i64)), .dead, .dead, .dead, .pv (.int .i64), .dead, .dead, .dead, .dead, .dead, .dead, .dead, .dead, .dead, .dead, .dead, .dead, .dead, .dead, .dead, .dead, .dead, .dead, .dead, .dead], []⟩
def spec_l01Same.xs4 : List XS := [⟨.exit 0, [], ⟨[.dead, .dead, .dead, .dead, .dead, .dead, .dead, .dead, .dead, .dead, .dead, .dead, .dead, .dead, .dead, .dead, .dead, .dead, .dead, .dead, .dead, .dead, .dead, .dead, .dead, .dead], []⟩⟩, ⟨.ret, [4], ⟨[.dead, .dead, .dead, .dead, .pv .bool, .dead, .dead, .dead, .dead, .dead, .dead, .dead, .dead, .dead, .dead, .dead, .dead, .dead, .dead, .dead, .dead, .dead, .dead, .dead, .dead, .dead], []⟩⟩]
noncomputable def spec_l01Same.con (N : Nat) : Con := { modes := [.v, .v], ptrs := [false], fn := fun ds k => match ds with | [d0, d1] => castDm (.sl 2 (.int .i64)) .imm d0 fun x0 => castDm (.sl 2 (.int .i64)) .imm d1 fun x1 => bindO (spec_l01Same N x0 x1) fun r => k [⟨.bool, .imm, r⟩] [] | _ => none }
noncomputable def spec_l01Same.cfg (N : Nat) : Cfg := { ty := tys, keep := [], flt := [], elm := [(22, (.own .imm)), (23, (.pr (.own .imm) .imm)), (24, (.pr (.own .imm) .imm)), (25, (.own (.own .imm))), (28, (.pr (.own .imm) .imm)), (29, (.pr (.pr (.own .imm) .imm) (.pr (.own .imm) .imm))), (30, (.pr (.pr (.own .imm) .imm) (.pr (.own .imm) .imm)))], live := [(4, [0, 1, 5])], ord := [(6, [0, 1, 2, 3, 4, 5, 6, 7, 8])], con := [], loops := [(4, loopCon N spec_l01Same.sk4 spec_l01Same.xs4 (fun {R} => spec_l01Same.l4 (R := R) N))], joins := [] }
theorem spec_l01Same.cons (N : Nat) : ConsOk Try.prog (spec_l01Same.cfg N).con := consOk_nil
theorem spec_l01Same.h4 {R : Type} (N : Nat) (d : spec_l01Same.sk4.D) (kn : spec_l01Same.sk4.D → Option R) (kx : XD spec_l01Same.xs4 → Option R) : roundK (spec_l01Same.cfg N) N (nthLoop (fnBody Try.f58) 0) spec_l01Same.sk4 spec_l01Same.xs4 d kn kx = spec_l01Same.l4 N d kn kx := by kernel_rfl
theorem spec_l01Same.i4 (N : Nat) : LoopsOk Try.prog (spec_l01Same.cfg N) (nthLoop (fnBody Try.f58) 0) := loopsL (l := []) (by kernel_rfl) trivial
theorem spec_l01Same.o4 (N : Nat) : LoopOk Try.prog (nthLoop (fnBody Try.f58) 0) (loopCon N spec_l01Same.sk4 spec_l01Same.xs4 (fun {R} => spec_l01Same.l4 (R := R) N)) := loop_ok (g := spec_l01Same.cfg N) tys_ok (spec_l01Same.cons N) mixed (spec_l01Same.i4 N) (fun d kn kx => spec_l01Same.h4 N d kn kx)
theorem spec_l01Same.ls (N : Nat) : LoopsOk Try.prog (spec_l01Same.cfg N) (fnBody Try.f58) := loopsL (l := [nthLoop (fnBody Try.f58) 0]) (by kernel_rfl) ⟨loopOne (L0 := loopCon N spec_l01Same.sk4 spec_l01Same.xs4 (fun {R} => spec_l01Same.l4 (R := R) N)) (id := 4) (by kernel_rfl) (by kernel_rfl) (spec_l01Same.o4 N), trivial⟩
theorem spec_l01Same.q4 {R R' : Type} {N n : Nat} {d} {k} {g : R → Option R'} : bindF (loopP (spec_l01Same.l4 N) n d k) g = loopP (spec_l01Same.l4 N) n d fun e => bindF (k e) g := bindF_loopP (fun d kn kx => by simp only [spec_l01Same.l4, bindF_ifB, bindF_bindO, bindF_pure, bindF_none, bindF_onSum]) n d k
theorem spec_l01Same.b (N : Nat) (x0 : den (.sl 2 (.int .i64))) (x1 : den (.sl 2 (.int .i64))) : body (spec_l01Same.cfg N) N Try.f58 [.one, .one] [.v, .v] [(false, .imm)] [⟨(.sl 2 (.int .i64)), .imm, x0⟩, ⟨(.sl 2 (.int .i64)), .imm, x1⟩] (fun r i => some (r, i)) = bindO (spec_l01Same N x0 x1) fun r => some ([⟨.bool, .imm, r⟩], []) := by
  show _ = bindF _ _
  conv => rhs; simp only [spec_l01Same, bindF_ifB, bindF_bindO, bindF_pure, bindF_none, bindF_onSum, spec_l01Same.q4]
  kernel_rfl
theorem spec_l01Same.ok (N : Nat) : ConOk Try.prog 58 [.one, .one] (spec_l01Same.con N) := by
  refine conOk_mk (g := spec_l01Same.cfg N) (N := N) (res := [(false, .imm)]) tys_ok (spec_l01Same.cons N) mixed Try.func58 (spec_l01Same.ls N) rfl rfl ?_
  intro ds R k y h
  cases ds with
  | nil => exact none_some h
  | cons d0 ds =>
  cases ds with
  | nil => exact none_some h
  | cons d1 ds =>
  cases ds with
  | cons _ _ => exact none_some h
  | nil =>
  have h0 : (castDm (.sl 2 (.int .i64)) .imm d0 fun x0 => castDm (.sl 2 (.int .i64)) .imm d1 fun x1 => bindO (spec_l01Same N x0 x1) fun r => k [⟨.bool, .imm, r⟩] []) = some y := h
  clear h
  obtain ⟨x0, rfl, h1⟩ := castDm_eq h0
  obtain ⟨x1, rfl, h2⟩ := castDm_eq h1
  exact con_fin (spec_l01Same.b N x0 x1) h2
theorem spec_l01Same.det (N : Nat) : ConDet (spec_l01Same.con N) := by
  intro ds R k y h
  cases ds with
  | nil => exact none_some h
  | cons d0 ds =>
  cases ds with
  | nil => exact none_some h
  | cons d1 ds =>
  cases ds with
  | cons _ _ => exact none_some h
  | nil =>
  have h0 : (castDm (.sl 2 (.int .i64)) .imm d0 fun x0 => castDm (.sl 2 (.int .i64)) .imm d1 fun x1 => bindO (spec_l01Same N x0 x1) fun r => k [⟨.bool, .imm, r⟩] []) = some y := h
  clear h
  obtain ⟨x0, rfl, h1⟩ := castDm_eq h0
  obtain ⟨x1, rfl, h2⟩ := castDm_eq h1
  obtain ⟨r, e, h⟩ := bindO_some h2
  refine ⟨_, _, h, fun k' => ?_⟩
  show (castDm (.sl 2 (.int .i64)) .imm (⟨(.sl 2 (.int .i64)), .imm, x0⟩ : Dy) fun x0 => castDm (.sl 2 (.int .i64)) .imm (⟨(.sl 2 (.int .i64)), .imm, x1⟩ : Dy) fun x1 => bindO (spec_l01Same N x0 x1) fun r => k' [⟨.bool, .imm, r⟩] []) = _
  simp only [castDm_self]
  rw [e]
  rfl
noncomputable def spec_l06Begins.con (N : Nat) : Con := { modes := [.v, .v], ptrs := [false], fn := fun ds k => match ds with | [d0, d1] => castDm (.sl 2 (.int .i64)) .imm d0 fun x0 => castDm (.sl 2 (.int .i64)) .imm d1 fun x1 => bindO (spec_l06Begins N x0 x1) fun r => k [⟨.bool, .imm, r⟩] [] | _ => none }
noncomputable def spec_l06Begins.cfg (N : Nat) : Cfg := { ty := tys, keep := [16], flt := [], elm := [(22, (.own .imm)), (23, (.pr (.own .imm) .imm)), (24, (.pr (.own .imm) .imm)), (25, (.own (.own .imm))), (28, (.pr (.own .imm) .imm)), (29, (.pr (.pr (.own .imm) .imm) (.pr (.own .imm) .imm))), (30, (.pr (.pr (.own .imm) .imm) (.pr (.own .imm) .imm)))], live := [], ord := [], con := [((58, [.one, .one]), spec_l01Same.con N)], loops := [], joins := [] }
theorem spec_l06Begins.cons (N : Nat) : ConsOk Try.prog (spec_l06Begins.cfg N).con := (consOk_cons (hb58) (spec_l01Same.ok N) (spec_l01Same.det N) consOk_nil)
theorem spec_l06Begins.ls (N : Nat) : LoopsOk Try.prog (spec_l06Begins.cfg N) (fnBody Try.f41) := loopsL (l := []) (by kernel_rfl) trivial
theorem spec_l06Begins.b (N : Nat) (x0 : den (.sl 2 (.int .i64))) (x1 : den (.sl 2 (.int .i64))) : body (spec_l06Begins.cfg N) N Try.f41 [.one, .one] [.v, .v] [(false, .imm)] [⟨(.sl 2 (.int .i64)), .imm, x0⟩, ⟨(.sl 2 (.int .i64)), .imm, x1⟩] (fun r i => some (r, i)) = bindO (spec_l06Begins N x0 x1) fun r => some ([⟨.bool, .imm, r⟩], []) := by
  show _ = bindF _ _
  conv => rhs; simp only [spec_l06Begins, bindF_ifB, bindF_bindO, bindF_pure, bindF_none, bindF_onSum]
  kernel_rfl
theorem spec_l06Begins.ok (N : Nat) : ConOk Try.prog 41 [.one, .one] (spec_l06Begins.con N) := by
  refine conOk_mk (g := spec_l06Begins.cfg N) (N := N) (res := [(false, .imm)]) tys_ok (spec_l06Begins.cons N) mixed Try.func41 (spec_l06Begins.ls N) rfl rfl ?_
  intro ds R k y h
  cases ds with
  | nil => exact none_some h
  | cons d0 ds =>
  cases ds with
  | nil => exact none_some h
  | cons d1 ds =>
  cases ds with
  | cons _ _ => exact none_some h
  | nil =>
  have h0 : (castDm (.sl 2 (.int .i64)) .imm d0 fun x0 => castDm (.sl 2 (.int .i64)) .imm d1 fun x1 => bindO (spec_l06Begins N x0 x1) fun r => k [⟨.bool, .imm, r⟩] []) = some y := h
  clear h
  obtain ⟨x0, rfl, h1⟩ := castDm_eq h0
  obtain ⟨x1, rfl, h2⟩ := castDm_eq h1
  exact con_fin (spec_l06Begins.b N x0 x1) h2
theorem spec_l06Begins.det (N : Nat) : ConDet (spec_l06Begins.con N) := by
  intro ds R k y h
  cases ds with
  | nil => exact none_some h
  | cons d0 ds =>
  cases ds with
  | nil => exact none_some h
  | cons d1 ds =>
  cases ds with
  | cons _ _ => exact none_some h
  | nil =>
  have h0 : (castDm (.sl 2 (.int .i64)) .imm d0 fun x0 => castDm (.sl 2 (.int .i64)) .imm d1 fun x1 => bindO (spec_l06Begins N x0 x1) fun r => k [⟨.bool, .imm, r⟩] []) = some y := h
  clear h
  obtain ⟨x0, rfl, h1⟩ := castDm_eq h0
  obtain ⟨x1, rfl, h2⟩ := castDm_eq h1
  obtain ⟨r, e, h⟩ := bindO_some h2
  refine ⟨_, _, h, fun k' => ?_⟩
  show (castDm (.sl 2 (.int .i64)) .imm (⟨(.sl 2 (.int .i64)), .imm, x0⟩ : Dy) fun x0 => castDm (.sl 2 (.int .i64)) .imm (⟨(.sl 2 (.int .i64)), .imm, x1⟩ : Dy) fun x1 => bindO (spec_l06Begins N x0 x1) fun r => k' [⟨.bool, .imm, r⟩] []) = _
  simp only [castDm_self]
  rw [e]
  rfl
def spec_CompMatch.sk5 : Skel := ⟨[.pv (.sl 22 (.sl 2 (.int .i64))), .pv (.sl 2 (.int .i64)), .dead, .dead, .dead, .ov 50 [], .pv (.int .i64), .dead, .dead, .dead, .dead, .dead, .dead, .dead, .dead, .dead, .dead, .dead, .dead, .dead, .dead, .dead, .dead, .dead, .dead, .dead, .dead, .dead, .dead, .dead, .dead, .dead, .dead, .dead, .dead, .dead, .dead, .dead, .dead, .dead, .dead, .dead, .dead, .dead], [⟨50, (.sl 2 (.int .i64)), (.own .imm), false, false⟩]⟩
def spec_CompMatch.xs5 : List XS := [⟨.exit 0, [5], ⟨[.dead, .dead, .dead, .dead, .dead, .ov 50 [], .dead, .dead, .dead, .dead, .dead, .dead, .dead, .dead, .dead, .dead, .dead, .dead, .dead, .dead, .dead, .dead, .dead, .dead, .dead, .dead, .dead, .dead, .dead, .dead, .dead, .dead, .dead, .dead, .dead, .dead, .dead, .dead, .dead, .dead, .dead, .dead, .dead, .dead], [⟨50, (.sl 2 (.int .i64)), (.own .imm), false, false⟩]⟩⟩]
noncomputable def spec_CompMatch.con (N : Nat) : Con := { modes := [.v, .v], ptrs := [false], fn := fun ds k => match ds with | [d0, d1] => castDm (.sl 22 (.sl 2 (.int .i64))) .imm d0 fun x0 => castDm (.sl 2 (.int .i64)) .imm d1 fun x1 => bindO (spec_CompMatch N x0 x1) fun r => k [⟨(.sl 2 (.int .i64)), (.own .imm), r⟩] [] | _ => none }
noncomputable def spec_CompMatch.cfg (N : Nat) : Cfg := { ty := tys, keep := [18, 23, 38], flt := [], elm := [(22, (.own .imm)), (23, (.pr (.own .imm) .imm)), (24, (.pr (.own .imm) .imm)), (25, (.own (.own .imm))), (28, (.pr (.own .imm) .imm)), (29, (.pr (.pr (.own .imm) .imm) (.pr (.own .imm) .imm))), (30, (.pr (.pr (.own .imm) .imm) (.pr (.own .imm) .imm)))], live := [(5, [0, 1, 5, 6])], ord := [], con := [((19, [.one]), spec_CandsRight.con N), ((38, [.one]), spec_PointsRight.con N), ((41, [.one, .one]), spec_l06Begins.con N)], loops := [(5, loopCon N spec_CompMatch.sk5 spec_CompMatch.xs5 (fun {R} => spec_CompMatch.l5 (R := R) N))], joins := [(6, [⟨.normal, [0, 1, 5, 6], ⟨[.pv (.sl 22 (.sl 2 (.int .i64))), .pv (.sl 2 (.int .i64)), .dead, .dead, .dead, .ov 50 [], .pv (.int .i64), .dead, .dead, .dead, .dead, .dead, .dead, .dead, .dead, .dead, .dead, .dead, .dead, .dead, .dead, .dead, .dead, .dead, .dead, .dead, .dead, .dead, .dead, .dead, .dead, .dead, .dead, .dead, .dead, .dead, .dead, .dead, .dead, .dead, .dead, .dead, .dead, .dead], [⟨50, (.sl 2 (.int .i64)), (.own .imm), false, false⟩]⟩⟩])] }
theorem spec_CompMatch.cons (N : Nat) : ConsOk Try.prog (spec_CompMatch.cfg N).con := (consOk_cons (hb19) (spec_CandsRight.ok N) (spec_CandsRight.det N) (consOk_cons (hb38) (spec_PointsRight.ok N) (spec_PointsRight.det N) (consOk_cons (hb41) (spec_l06Begins.ok N) (spec_l06Begins.det N) consOk_nil)))
theorem spec_CompMatch.h5 {R : Type} (N : Nat) (d : spec_CompMatch.sk5.D) (kn : spec_CompMatch.sk5.D → Option R) (kx : XD spec_CompMatch.xs5 → Option R) : roundK (spec_CompMatch.cfg N) N (nthLoop (fnBody Try.f21) 0) spec_CompMatch.sk5 spec_CompMatch.xs5 d kn kx = spec_CompMatch.l5 N d kn kx := by kernel_rfl
theorem spec_CompMatch.i5 (N : Nat) : LoopsOk Try.prog (spec_CompMatch.cfg N) (nthLoop (fnBody Try.f21) 0) := loopsL (l := []) (by kernel_rfl) trivial
theorem spec_CompMatch.o5 (N : Nat) : LoopOk Try.prog (nthLoop (fnBody Try.f21) 0) (loopCon N spec_CompMatch.sk5 spec_CompMatch.xs5 (fun {R} => spec_CompMatch.l5 (R := R) N)) := loop_ok (g := spec_CompMatch.cfg N) tys_ok (spec_CompMatch.cons N) mixed (spec_CompMatch.i5 N) (fun d kn kx => spec_CompMatch.h5 N d kn kx)
theorem spec_CompMatch.ls (N : Nat) : LoopsOk Try.prog (spec_CompMatch.cfg N) (fnBody Try.f21) := loopsL (l := [nthLoop (fnBody Try.f21) 0]) (by kernel_rfl) ⟨loopOne (L0 := loopCon N spec_CompMatch.sk5 spec_CompMatch.xs5 (fun {R} => spec_CompMatch.l5 (R := R) N)) (id := 5) (by kernel_rfl) (by kernel_rfl) (spec_CompMatch.o5 N), trivial⟩
theorem spec_CompMatch.q5 {R R' : Type} {N n : Nat} {d} {k} {g : R → Option R'} : bindF (loopP (spec_CompMatch.l5 N) n d k) g = loopP (spec_CompMatch.l5 N) n d fun e => bindF (k e) g := bindF_loopP (fun d kn kx => by simp only [spec_CompMatch.l5, bindF_ifB, bindF_bindO, bindF_pure, bindF_none, bindF_onSum]) n d k
theorem spec_CompMatch.b (N : Nat) (x0 : den (.sl 22 (.sl 2 (.int .i64)))) (x1 : den (.sl 2 (.int .i64))) : body (spec_CompMatch.cfg N) N Try.f21 [.one, .one] [.v, .v] [(false, (.own .imm))] [⟨(.sl 22 (.sl 2 (.int .i64))), .imm, x0⟩, ⟨(.sl 2 (.int .i64)), .imm, x1⟩] (fun r i => some (r, i)) = bindO (spec_CompMatch N x0 x1) fun r => some ([⟨(.sl 2 (.int .i64)), (.own .imm), r⟩], []) := by
  show _ = bindF _ _
  conv => rhs; simp only [spec_CompMatch, bindF_ifB, bindF_bindO, bindF_pure, bindF_none, bindF_onSum, spec_CompMatch.q5]
  kernel_rfl
theorem spec_CompMatch.ok (N : Nat) : ConOk Try.prog 21 [.one, .one] (spec_CompMatch.con N) := by
  refine conOk_mk (g := spec_CompMatch.cfg N) (N := N) (res := [(false, (.own .imm))]) tys_ok (spec_CompMatch.cons N) mixed Try.func21 (spec_CompMatch.ls N) rfl rfl ?_
  intro ds R k y h
  cases ds with
  | nil => exact none_some h
  | cons d0 ds =>
  cases ds with
  | nil => exact none_some h
  | cons d1 ds =>
  cases ds with
  | cons _ _ => exact none_some h
  | nil =>
  have h0 : (castDm (.sl 22 (.sl 2 (.int .i64))) .imm d0 fun x0 => castDm (.sl 2 (.int .i64)) .imm d1 fun x1 => bindO (spec_CompMatch N x0 x1) fun r => k [⟨(.sl 2 (.int .i64)), (.own .imm), r⟩] []) = some y := h
  clear h
  obtain ⟨x0, rfl, h1⟩ := castDm_eq h0
  obtain ⟨x1, rfl, h2⟩ := castDm_eq h1
  exact con_fin (spec_CompMatch.b N x0 x1) h2
theorem spec_CompMatch.det (N : Nat) : ConDet (spec_CompMatch.con N) := by
  intro ds R k y h
  cases ds with
  | nil => exact none_some h
  | cons d0 ds =>
  cases ds with
  | nil => exact none_some h
  | cons d1 ds =>
  cases ds with
  | cons _ _ => exact none_some h
  | nil =>
  have h0 : (castDm (.sl 22 (.sl 2 (.int .i64))) .imm d0 fun x0 => castDm (.sl 2 (.int .i64)) .imm d1 fun x1 => bindO (spec_CompMatch N x0 x1) fun r => k [⟨(.sl 2 (.int .i64)), (.own .imm), r⟩] []) = some y := h
  clear h
  obtain ⟨x0, rfl, h1⟩ := castDm_eq h0
  obtain ⟨x1, rfl, h2⟩ := castDm_eq h1
  obtain ⟨r, e, h⟩ := bindO_some h2
  refine ⟨_, _, h, fun k' => ?_⟩
  show (castDm (.sl 22 (.sl 2 (.int .i64))) .imm (⟨(.sl 22 (.sl 2 (.int .i64))), .imm, x0⟩ : Dy) fun x0 => castDm (.sl 2 (.int .i64)) .imm (⟨(.sl 2 (.int .i64)), .imm, x1⟩ : Dy) fun x1 => bindO (spec_CompMatch N x0 x1) fun r => k' [⟨(.sl 2 (.int .i64)), (.own .imm), r⟩] []) = _
  simp only [castDm_self]
  rw [e]
  rfl
def spec_CompCommon.sk8 : Skel := ⟨[.pv (.sl 22 (.sl 2 (.int .i64))), .dead, .dead, .dead, .dead, .ov 50 [], .ov 51 [], .pv (.int .i64), .dead, .dead, .dead, .dead, .dead, .dead, .dead, .dead, .dead, .dead, .dead, .dead, .dead, .dead, .dead, .dead, .dead, .dead, .dead, .dead, .dead, .dead, .dead, .dead, .dead, .dead, .dead, .dead, .dead, .dead, .dead, .dead, .dead, .dead, .dead, .dead, .dead, .dead, .dead, .dead, .dead, .dead, .dead, .dead, .dead, .dead, .dead, .dead, .dead, .dead, .dead], [⟨50, (.sl 2 (.int .i64)), (.own .imm), false, false⟩, ⟨51, (.sl 2 (.int .i64)), (.own .imm), false, false⟩]⟩
def spec_CompCommon.xs8 : List XS := [⟨.exit 0, [6], ⟨[.dead, .dead, .dead, .dead, .dead, .dead, .ov 50 [], .dead, .dead, .dead, .dead, .dead, .dead, .dead, .dead, .dead, .dead, .dead, .dead, .dead, .dead, .dead, .dead, .dead, .dead, .dead, .dead, .dead, .dead, .dead, .dead, .dead, .dead, .dead, .dead, .dead, .dead, .dead, .dead, .dead, .dead, .dead, .dead, .dead, .dead, .dead, .dead, .dead, .dead, .dead, .dead, .dead, .dead, .dead, .dead, .dead, .dead, .dead, .dead], [⟨50, (.sl 2 (.int .i64)), (.own .imm), false, false⟩]⟩⟩]
def spec_CompCommon.sk10 : Skel := ⟨[.pv (.sl 22 (.sl 2 (.int .i64))), .dead, .dead, .dead, .dead, .ov 50 [], .ov 51 [], .pv (.int .i64), .dead, .dead, .dead, .dead, .dead, .dead, .dead, .dead, .dead, .dead, .dead, .dead, .dead, .dead, .dead, .dead, .dead, .dead, .dead, .dead, .dead, .dead, .dead, .dead, .dead, .dead, .dead, .dead, .dead, .dead, .dead, .dead, .dead, .dead, .dead, .dead, .dead, .dead, .dead, .dead, .dead, .dead, .dead, .dead, .dead, .dead, .dead, .dead, .dead, .dead, .dead], [⟨50, (.sl 2 (.int .i64)), (.own .imm), false, false⟩, ⟨51, (.sl 2 (.int .i64)), (.own .imm), false, false⟩]⟩
def spec_CompCommon.xs10 : List XS := [⟨.exit 2, [0, 5, 6, 7], ⟨[.pv (.sl 22 (.sl 2 (.int .i64))), .dead, .dead, .dead, .dead, .ov 50 [], .ov 51 [], .pv (.int .i64), .dead, .dead, .dead, .dead, .dead, .dead, .dead, .dead, .dead, .dead, .dead, .dead, .dead, .dead, .dead, .dead, .dead, .dead, .dead, .dead, .dead, .dead, .dead, .dead, .dead, .dead, .dead, .dead, .dead, .dead, .dead, .dead, .dead, .dead, .dead, .dead, .dead, .dead, .dead, .dead, .dead, .dead, .dead, .dead, .dead, .dead, .dead, .dead, .dead, .dead, .dead], [⟨50, (.sl 2 (.int .i64)), (.own .imm), false, false⟩, ⟨51, (.sl 2 (.int .i64)), (.own .imm), false, false⟩]⟩⟩]
noncomputable def spec_CompCommon.con (N : Nat) : Con := { modes := [.v, .v], ptrs := [false], fn := fun ds k => match ds with | [d0, d1] => castDm (.sl 22 (.sl 2 (.int .i64))) .imm d0 fun x0 => castDm (.sl 2 (.int .i64)) .imm d1 fun x1 => bindO (spec_CompCommon N x0 x1) fun r => k [⟨(.sl 2 (.int .i64)), (.own .imm), r⟩] [] | _ => none }
noncomputable def spec_CompCommon.cfg (N : Nat) : Cfg := { ty := tys, keep := [18, 24, 29, 36, 51], flt := [], elm := [(22, (.own .imm)), (23, (.pr (.own .imm) .imm)), (24, (.pr (.own .imm) .imm)), (25, (.own (.own .imm))), (28, (.pr (.own .imm) .imm)), (29, (.pr (.pr (.own .imm) .imm) (.pr (.own .imm) .imm))), (30, (.pr (.pr (.own .imm) .imm) (.pr (.own .imm) .imm)))], live := [(10, [0, 5, 6, 7]), (8, [0, 5, 6, 7])], ord := [], con := [((38, [.one]), spec_PointsRight.con N), ((21, [.one, .one]), spec_CompMatch.con N), ((22, [.one]), spec_l01Copy.con N), ((41, [.one, .one]), spec_l06Begins.con N)], loops := [(8, loopCon N spec_CompCommon.sk8 spec_CompCommon.xs8 (fun {R} => spec_CompCommon.l8 (R := R) N)), (10, loopCon N spec_CompCommon.sk10 spec_CompCommon.xs10 (fun {R} => spec_CompCommon.l10 (R := R) N))], joins := [] }
theorem spec_CompCommon.cons (N : Nat) : ConsOk Try.prog (spec_CompCommon.cfg N).con := (consOk_cons (hb38) (spec_PointsRight.ok N) (spec_PointsRight.det N) (consOk_cons (hb21) (spec_CompMatch.ok N) (spec_CompMatch.det N) (consOk_cons (hb22) (spec_l01Copy.ok N) (spec_l01Copy.det N) (consOk_cons (hb41) (spec_l06Begins.ok N) (spec_l06Begins.det N) consOk_nil))))
theorem spec_CompCommon.h10 {R : Type} (N : Nat) (d : spec_CompCommon.sk10.D) (kn : spec_CompCommon.sk10.D → Option R) (kx : XD spec_CompCommon.xs10 → Option R) : roundK (spec_CompCommon.cfg N) N (nthLoop (fnBody Try.f23) 1) spec_CompCommon.sk10 spec_CompCommon.xs10 d kn kx = spec_CompCommon.l10 N d kn kx := by kernel_rfl
theorem spec_CompCommon.i10 (N : Nat) : LoopsOk Try.prog (spec_CompCommon.cfg N) (nthLoop (fnBody Try.f23) 1) := loopsL (l := []) (by kernel_rfl) trivial
theorem spec_CompCommon.o10 (N : Nat) : LoopOk Try.prog (nthLoop (fnBody Try.f23) 1) (loopCon N spec_CompCommon.sk10 spec_CompCommon.xs10 (fun {R} => spec_CompCommon.l10 (R := R) N)) := loop_ok (g := spec_CompCommon.cfg N) tys_ok (spec_CompCommon.cons N) mixed (spec_CompCommon.i10 N) (fun d kn kx => spec_CompCommon.h10 N d kn kx)
theorem spec_CompCommon.h8 {R : Type} (N : Nat) (d : spec_CompCommon.sk8.D) (kn : spec_CompCommon.sk8.D → Option R) (kx : XD spec_CompCommon.xs8 → Option R) : roundK (spec_CompCommon.cfg N) N (nthLoop (fnBody Try.f23) 0) spec_CompCommon.sk8 spec_CompCommon.xs8 d kn kx = spec_CompCommon.l8 N d kn kx := by kernel_rfl
theorem spec_CompCommon.i8 (N : Nat) : LoopsOk Try.prog (spec_CompCommon.cfg N) (nthLoop (fnBody Try.f23) 0) := loopsL (l := [nthLoop (fnBody Try.f23) 1]) (by kernel_rfl) ⟨loopOne (L0 := loopCon N spec_CompCommon.sk10 spec_CompCommon.xs10 (fun {R} => spec_CompCommon.l10 (R := R) N)) (id := 10) (by kernel_rfl) (by kernel_rfl) (spec_CompCommon.o10 N), trivial⟩
theorem spec_CompCommon.o8 (N : Nat) : LoopOk Try.prog (nthLoop (fnBody Try.f23) 0) (loopCon N spec_CompCommon.sk8 spec_CompCommon.xs8 (fun {R} => spec_CompCommon.l8 (R := R) N)) := loop_ok (g := spec_CompCommon.cfg N) tys_ok (spec_CompCommon.cons N) mixed (spec_CompCommon.i8 N) (fun d kn kx => spec_CompCommon.h8 N d kn kx)
theorem spec_CompCommon.ls (N : Nat) : LoopsOk Try.prog (spec_CompCommon.cfg N) (fnBody Try.f23) := loopsL (l := [nthLoop (fnBody Try.f23) 0, nthLoop (fnBody Try.f23) 1]) (by kernel_rfl) ⟨loopOne (L0 := loopCon N spec_CompCommon.sk8 spec_CompCommon.xs8 (fun {R} => spec_CompCommon.l8 (R := R) N)) (id := 8) (by kernel_rfl) (by kernel_rfl) (spec_CompCommon.o8 N), ⟨loopOne (L0 := loopCon N spec_CompCommon.sk10 spec_CompCommon.xs10 (fun {R} => spec_CompCommon.l10 (R := R) N)) (id := 10) (by kernel_rfl) (by kernel_rfl) (spec_CompCommon.o10 N), trivial⟩⟩
theorem spec_CompCommon.q10 {R R' : Type} {N n : Nat} {d} {k} {g : R → Option R'} : bindF (loopP (spec_CompCommon.l10 N) n d k) g = loopP (spec_CompCommon.l10 N) n d fun e => bindF (k e) g := bindF_loopP (fun d kn kx => by simp only [spec_CompCommon.l10, bindF_ifB, bindF_bindO, bindF_pure, bindF_none, bindF_onSum]) n d k
theorem spec_CompCommon.q8 {R R' : Type} {N n : Nat} {d} {k} {g : R → Option R'} : bindF (loopP (spec_CompCommon.l8 N) n d k) g = loopP (spec_CompCommon.l8 N) n d fun e => bindF (k e) g := bindF_loopP (fun d kn kx => by simp only [spec_CompCommon.l8, bindF_ifB, bindF_bindO, bindF_pure, bindF_none, bindF_onSum, spec_CompCommon.q10]) n d k
theorem spec_CompCommon.b (N : Nat) (x0 : den (.sl 22 (.sl 2 (.int .i64)))) (x1 : den (.sl 2 (.int .i64))) : body (spec_CompCommon.cfg N) N Try.f23 [.one, .one] [.v, .v] [(false, (.own .imm))] [⟨(.sl 22 (.sl 2 (.int .i64))), .imm, x0⟩, ⟨(.sl 2 (.int .i64)), .imm, x1⟩] (fun r i => some (r, i)) = bindO (spec_CompCommon N x0 x1) fun r => some ([⟨(.sl 2 (.int .i64)), (.own .imm), r⟩], []) := by
  show _ = bindF _ _
  conv => rhs; simp only [spec_CompCommon, bindF_ifB, bindF_bindO, bindF_pure, bindF_none, bindF_onSum, spec_CompCommon.q8, spec_CompCommon.q10]
  kernel_rfl
theorem spec_CompCommon.ok (N : Nat) : ConOk Try.prog 23 [.one, .one] (spec_CompCommon.con N) := by
  refine conOk_mk (g := spec_CompCommon.cfg N) (N := N) (res := [(false, (.own .imm))]) tys_ok (spec_CompCommon.cons N) mixed Try.func23 (spec_CompCommon.ls N) rfl rfl ?_
  intro ds R k y h
  cases ds with
  | nil => exact none_some h
  | cons d0 ds =>
  cases ds with
  | nil => exact none_some h
  | cons d1 ds =>
  cases ds with
  | cons _ _ => exact none_some h
  | nil =>
  have h0 : (castDm (.sl 22 (.sl 2 (.int .i64))) .imm d0 fun x0 => castDm (.sl 2 (.int .i64)) .imm d1 fun x1 => bindO (spec_CompCommon N x0 x1) fun r => k [⟨(.sl 2 (.int .i64)), (.own .imm), r⟩] []) = some y := h
  clear h
  obtain ⟨x0, rfl, h1⟩ := castDm_eq h0
  obtain ⟨x1, rfl, h2⟩ := castDm_eq h1
  exact con_fin (spec_CompCommon.b N x0 x1) h2
theorem spec_CompCommon.det (N : Nat) : ConDet (spec_CompCommon.con N) := by
  intro ds R k y h
  cases ds with
  | nil => exact none_some h
  | cons d0 ds =>
  cases ds with
  | nil => exact none_some h
  | cons d1 ds =>
  cases ds with
  | cons _ _ => exact none_some h
  | nil =>
  have h0 : (castDm (.sl 22 (.sl 2 (.int .i64))) .imm d0 fun x0 => castDm (.sl 2 (.int .i64)) .imm d1 fun x1 => bindO (spec_CompCommon N x0 x1) fun r => k [⟨(.sl 2 (.int .i64)), (.own .imm), r⟩] []) = some y := h
  clear h
  obtain ⟨x0, rfl, h1⟩ := castDm_eq h0
  obtain ⟨x1, rfl, h2⟩ := castDm_eq h1
  obtain ⟨r, e, h⟩ := bindO_some h2
  refine ⟨_, _, h, fun k' => ?_⟩
  show (castDm (.sl 22 (.sl 2 (.int .i64))) .imm (⟨(.sl 22 (.sl 2 (.int .i64))), .imm, x0⟩ : Dy) fun x0 => castDm (.sl 2 (.int .i64)) .imm (⟨(.sl 2 (.int .i64)), .imm, x1⟩ : Dy) fun x1 => bindO (spec_CompCommon N x0 x1) fun r => k' [⟨(.sl 2 (.int .i64)), (.own .imm), r⟩] []) = _
  simp only [castDm_self]
  rw [e]
  rfl
noncomputable def spec_l02Moved.con (N : Nat) : Con := { modes := [.v, .v, .v, .v], ptrs := [false], fn := fun ds k => match ds with | [d0, d1, d2, d3] => castDm (.int .i64) .imm d0 fun x0 => castDm (.int .i64) .imm d1 fun x1 => castDm (.int .i64) .imm d2 fun x2 => castDm (.int .i64) .imm d3 fun x3 => bindO (spec_l02Moved N x0 x1 x2 x3) fun r => k [⟨(.int .i64), .imm, r⟩] [] | _ => none }
noncomputable def spec_l02Moved.cfg (N : Nat) : Cfg := { ty := tys, keep := [], flt := [], elm := [(22, (.own .imm)), (23, (.pr (.own .imm) .imm)), (24, (.pr (.own .imm) .imm)), (25, (.own (.own .imm))), (28, (.pr (.own .imm) .imm)), (29, (.pr (.pr (.own .imm) .imm) (.pr (.own .imm) .imm))), (30, (.pr (.pr (.own .imm) .imm) (.pr (.own .imm) .imm)))], live := [], ord := [], con := [], loops := [], joins := [] }
theorem spec_l02Moved.cons (N : Nat) : ConsOk Try.prog (spec_l02Moved.cfg N).con := consOk_nil
theorem spec_l02Moved.ls (N : Nat) : LoopsOk Try.prog (spec_l02Moved.cfg N) (fnBody Try.f59) := loopsL (l := []) (by kernel_rfl) trivial
theorem spec_l02Moved.b (N : Nat) (x0 : den (.int .i64)) (x1 : den (.int .i64)) (x2 : den (.int .i64)) (x3 : den (.int .i64)) : body (spec_l02Moved.cfg N) N Try.f59 [.one, .one, .one, .one] [.v, .v, .v, .v] [(false, .imm)] [⟨(.int .i64), .imm, x0⟩, ⟨(.int .i64), .imm, x1⟩, ⟨(.int .i64), .imm, x2⟩, ⟨(.int .i64), .imm, x3⟩] (fun r i => some (r, i)) = bindO (spec_l02Moved N x0 x1 x2 x3) fun r => some ([⟨(.int .i64), .imm, r⟩], []) := by
  show _ = bindF _ _
  conv => rhs; simp only [spec_l02Moved, bindF_ifB, bindF_bindO, bindF_pure, bindF_none, bindF_onSum]
  kernel_rfl
theorem spec_l02Moved.ok (N : Nat) : ConOk Try.prog 59 [.one, .one, .one, .one] (spec_l02Moved.con N) := by
  refine conOk_mk (g := spec_l02Moved.cfg N) (N := N) (res := [(false, .imm)]) tys_ok (spec_l02Moved.cons N) mixed Try.func59 (spec_l02Moved.ls N) rfl rfl ?_
  intro ds R k y h
  cases ds with
  | nil => exact none_some h
  | cons d0 ds =>
  cases ds with
  | nil => exact none_some h
  | cons d1 ds =>
  cases ds with
  | nil => exact none_some h
  | cons d2 ds =>
  cases ds with
  | nil => exact none_some h
  | cons d3 ds =>
  cases ds with
  | cons _ _ => exact none_some h
  | nil =>
  have h0 : (castDm (.int .i64) .imm d0 fun x0 => castDm (.int .i64) .imm d1 fun x1 => castDm (.int .i64) .imm d2 fun x2 => castDm (.int .i64) .imm d3 fun x3 => bindO (spec_l02Moved N x0 x1 x2 x3) fun r => k [⟨(.int .i64), .imm, r⟩] []) = some y := h
  clear h
  obtain ⟨x0, rfl, h1⟩ := castDm_eq h0
  obtain ⟨x1, rfl, h2⟩ := castDm_eq h1
  obtain ⟨x2, rfl, h3⟩ := castDm_eq h2
  obtain ⟨x3, rfl, h4⟩ := castDm_eq h3
  exact con_fin (spec_l02Moved.b N x0 x1 x2 x3) h4
theorem spec_l02Moved.det (N : Nat) : ConDet (spec_l02Moved.con N) := by
  intro ds R k y h
  cases ds with
  | nil => exact none_some h
  | cons d0 ds =>
  cases ds with
  | nil => exact none_some h
  | cons d1 ds =>
  cases ds with
  | nil => exact none_some h
  | cons d2 ds =>
  cases ds with
  | nil => exact none_some h
  | cons d3 ds =>
  cases ds with
  | cons _ _ => exact none_some h
  | nil =>
  have h0 : (castDm (.int .i64) .imm d0 fun x0 => castDm (.int .i64) .imm d1 fun x1 => castDm (.int .i64) .imm d2 fun x2 => castDm (.int .i64) .imm d3 fun x3 => bindO (spec_l02Moved N x0 x1 x2 x3) fun r => k [⟨(.int .i64), .imm, r⟩] []) = some y := h
  clear h
  obtain ⟨x0, rfl, h1⟩ := castDm_eq h0
  obtain ⟨x1, rfl, h2⟩ := castDm_eq h1
  obtain ⟨x2, rfl, h3⟩ := castDm_eq h2
  obtain ⟨x3, rfl, h4⟩ := castDm_eq h3
  obtain ⟨r, e, h⟩ := bindO_some h4
  refine ⟨_, _, h, fun k' => ?_⟩
  show (castDm (.int .i64) .imm (⟨(.int .i64), .imm, x0⟩ : Dy) fun x0 => castDm (.int .i64) .imm (⟨(.int .i64), .imm, x1⟩ : Dy) fun x1 => castDm (.int .i64) .imm (⟨(.int .i64), .imm, x2⟩ : Dy) fun x2 => castDm (.int .i64) .imm (⟨(.int .i64), .imm, x3⟩ : Dy) fun x3 => bindO (spec_l02Moved N x0 x1 x2 x3) fun r => k' [⟨(.int .i64), .imm, r⟩] []) = _
  simp only [castDm_self]
  rw [e]
  rfl
noncomputable def spec_BufReplace.con (N : Nat) : Con := { modes := [.v, .v, .v, .v], ptrs := [false], fn := fun ds k => match ds with | [d0, d1, d2, d3] => castDm (.pair (.sl 2 (.int .i64)) (.pair (.int .i64) (.pair (.int .i64) .unit))) .imm d0 fun x0 => castDm (.int .i64) .imm d1 fun x1 => castDm (.int .i64) .imm d2 fun x2 => castDm (.sl 2 (.int .i64)) .imm d3 fun x3 => bindO (spec_BufReplace N x0 x1 x2 x3) fun r => k [⟨(.pair (.pair (.sl 2 (.int .i64)) (.pair (.int .i64) (.pair (.int .i64) .unit))) (.pair (.sl 2 (.int .i64)) (.pair (.int .i64) .unit))), (.pr (.pr (.own .imm) .imm) (.pr (.own .imm) .imm)), r⟩] [] | _ => none }
noncomputable def spec_BufReplace.cfg (N : Nat) : Cfg := { ty := tys, keep := [18, 22, 63, 69, 75, 103], flt := [], elm := [(22, (.own .imm)), (23, (.pr (.own .imm) .imm)), (24, (.pr (.own .imm) .imm)), (25, (.own (.own .imm))), (28, (.pr (.own .imm) .imm)), (29, (.pr (.pr (.own .imm) .imm) (.pr (.own .imm) .imm))), (30, (.pr (.pr (.own .imm) .imm) (.pr (.own .imm) .imm)))], live := [], ord := [(12, [13, 0, 1, 2, 3, 4, 6, 7, 8, 9, 10, 5, 11, 12, 14]), (13, [0, 1, 2, 3, 5, 7, 8, 9, 10, 4, 6, 11, 12, 13]), (16, [0, 1, 2, 3, 4, 5, 6, 7, 8])], con := [((18, [.one]), spec_BufRight.con N), ((38, [.one]), spec_PointsRight.con N), ((59, [.one, .one, .one, .one]), spec_l02Moved.con N), ((22, [.one]), spec_l01Copy.con N)], loops := [], joins := [] }
theorem spec_BufReplace.cons (N : Nat) : ConsOk Try.prog (spec_BufReplace.cfg N).con := (consOk_cons (hb18) (spec_BufRight.ok N) (spec_BufRight.det N) (consOk_cons (hb38) (spec_PointsRight.ok N) (spec_PointsRight.det N) (consOk_cons (hb59) (spec_l02Moved.ok N) (spec_l02Moved.det N) (consOk_cons (hb22) (spec_l01Copy.ok N) (spec_l01Copy.det N) consOk_nil))))
theorem spec_BufReplace.ls (N : Nat) : LoopsOk Try.prog (spec_BufReplace.cfg N) (fnBody Try.f42) := loopsL (l := []) (by kernel_rfl) trivial
theorem spec_BufReplace.b (N : Nat) (x0 : den (.pair (.sl 2 (.int .i64)) (.pair (.int .i64) (.pair (.int .i64) .unit)))) (x1 : den (.int .i64)) (x2 : den (.int .i64)) (x3 : den (.sl 2 (.int .i64))) : body (spec_BufReplace.cfg N) N Try.f42 [.one, .one, .one, .one] [.v, .v, .v, .v] [(false, (.pr (.pr (.own .imm) .imm) (.pr (.own .imm) .imm)))] [⟨(.pair (.sl 2 (.int .i64)) (.pair (.int .i64) (.pair (.int .i64) .unit))), .imm, x0⟩, ⟨(.int .i64), .imm, x1⟩, ⟨(.int .i64), .imm, x2⟩, ⟨(.sl 2 (.int .i64)), .imm, x3⟩] (fun r i => some (r, i)) = bindO (spec_BufReplace N x0 x1 x2 x3) fun r => some ([⟨(.pair (.pair (.sl 2 (.int .i64)) (.pair (.int .i64) (.pair (.int .i64) .unit))) (.pair (.sl 2 (.int .i64)) (.pair (.int .i64) .unit))), (.pr (.pr (.own .imm) .imm) (.pr (.own .imm) .imm)), r⟩], []) := by
  show _ = bindF _ _
  conv => rhs; simp only [spec_BufReplace, bindF_ifB, bindF_bindO, bindF_pure, bindF_none, bindF_onSum]
  kernel_rfl
theorem spec_BufReplace.ok (N : Nat) : ConOk Try.prog 42 [.one, .one, .one, .one] (spec_BufReplace.con N) := by
  refine conOk_mk (g := spec_BufReplace.cfg N) (N := N) (res := [(false, (.pr (.pr (.own .imm) .imm) (.pr (.own .imm) .imm)))]) tys_ok (spec_BufReplace.cons N) mixed Try.func42 (spec_BufReplace.ls N) rfl rfl ?_
  intro ds R k y h
  cases ds with
  | nil => exact none_some h
  | cons d0 ds =>
  cases ds with
  | nil => exact none_some h
  | cons d1 ds =>
  cases ds with
  | nil => exact none_some h
  | cons d2 ds =>
  cases ds with
  | nil => exact none_some h
  | cons d3 ds =>
  cases ds with
  | cons _ _ => exact none_some h
  | nil =>
  have h0 : (castDm (.pair (.sl 2 (.int .i64)) (.pair (.int .i64) (.pair (.int .i64) .unit))) .imm d0 fun x0 => castDm (.int .i64) .imm d1 fun x1 => castDm (.int .i64) .imm d2 fun x2 => castDm (.sl 2 (.int .i64)) .imm d3 fun x3 => bindO (spec_BufReplace N x0 x1 x2 x3) fun r => k [⟨(.pair (.pair (.sl 2 (.int .i64)) (.pair (.int .i64) (.pair (.int .i64) .unit))) (.pair (.sl 2 (.int .i64)) (.pair (.int .i64) .unit))), (.pr (.pr (.own .imm) .imm) (.pr (.own .imm) .imm)), r⟩] []) = some y := h
  clear h
  obtain ⟨x0, rfl, h1⟩ := castDm_eq h0
  obtain ⟨x1, rfl, h2⟩ := castDm_eq h1
  obtain ⟨x2, rfl, h3⟩ := castDm_eq h2
  obtain ⟨x3, rfl, h4⟩ := castDm_eq h3
  exact con_fin (spec_BufReplace.b N x0 x1 x2 x3) h4
theorem spec_BufReplace.det (N : Nat) : ConDet (spec_BufReplace.con N) := by
  intro ds R k y h
  cases ds with
  | nil => exact none_some h
  | cons d0 ds =>
  cases ds with
  | nil => exact none_some h
  | cons d1 ds =>
  cases ds with
  | nil => exact none_some h
  | cons d2 ds =>
  cases ds with
  | nil => exact none_some h
  | cons d3 ds =>
  cases ds with
  | cons _ _ => exact none_some h
  | nil =>
  have h0 : (castDm (.pair (.sl 2 (.int .i64)) (.pair (.int .i64) (.pair (.int .i64) .unit))) .imm d0 fun x0 => castDm (.int .i64) .imm d1 fun x1 => castDm (.int .i64) .imm d2 fun x2 => castDm (.sl 2 (.int .i64)) .imm d3 fun x3 => bindO (spec_BufReplace N x0 x1 x2 x3) fun r => k [⟨(.pair (.pair (.sl 2 (.int .i64)) (.pair (.int .i64) (.pair (.int .i64) .unit))) (.pair (.sl 2 (.int .i64)) (.pair (.int .i64) .unit))), (.pr (.pr (.own .imm) .imm) (.pr (.own .imm) .imm)), r⟩] []) = some y := h
  clear h
  obtain ⟨x0, rfl, h1⟩ := castDm_eq h0
  obtain ⟨x1, rfl, h2⟩ := castDm_eq h1
  obtain ⟨x2, rfl, h3⟩ := castDm_eq h2
  obtain ⟨x3, rfl, h4⟩ := castDm_eq h3
  obtain ⟨r, e, h⟩ := bindO_some h4
  refine ⟨_, _, h, fun k' => ?_⟩
  show (castDm (.pair (.sl 2 (.int .i64)) (.pair (.int .i64) (.pair (.int .i64) .unit))) .imm (⟨(.pair (.sl 2 (.int .i64)) (.pair (.int .i64) (.pair (.int .i64) .unit))), .imm, x0⟩ : Dy) fun x0 => castDm (.int .i64) .imm (⟨(.int .i64), .imm, x1⟩ : Dy) fun x1 => castDm (.int .i64) .imm (⟨(.int .i64), .imm, x2⟩ : Dy) fun x2 => castDm (.sl 2 (.int .i64)) .imm (⟨(.sl 2 (.int .i64)), .imm, x3⟩ : Dy) fun x3 => bindO (spec_BufReplace N x0 x1 x2 x3) fun r => k' [⟨(.pair (.pair (.sl 2 (.int .i64)) (.pair (.int .i64) (.pair (.int .i64) .unit))) (.pair (.sl 2 (.int .i64)) (.pair (.int .i64) .unit))), (.pr (.pr (.own .imm) .imm) (.pr (.own .imm) .imm)), r⟩] []) = _
  simp only [castDm_self]
  rw [e]
  rfl
noncomputable def spec_BufInsert.con (N : Nat) : Con := { modes := [.v, .v], ptrs := [false], fn := fun ds k => match ds with | [d0, d1] => castDm (.pair (.sl 2 (.int .i64)) (.pair (.int .i64) (.pair (.int .i64) .unit))) .imm d0 fun x0 => castDm (.sl 2 (.int .i64)) .imm d1 fun x1 => bindO (spec_BufInsert N x0 x1) fun r => k [⟨(.pair (.pair (.sl 2 (.int .i64)) (.pair (.int .i64) (.pair (.int .i64) .unit))) (.pair (.sl 2 (.int .i64)) (.pair (.int .i64) .unit))), (.pr (.pr (.own .imm) .imm) (.pr (.own .imm) .imm)), r⟩] [] | _ => none }
noncomputable def spec_BufInsert.cfg (N : Nat) : Cfg := { ty := tys, keep := [11], flt := [], elm := [(22, (.own .imm)), (23, (.pr (.own .imm) .imm)), (24, (.pr (.own .imm) .imm)), (25, (.own (.own .imm))), (28, (.pr (.own .imm) .imm)), (29, (.pr (.pr (.own .imm) .imm) (.pr (.own .imm) .imm))), (30, (.pr (.pr (.own .imm) .imm) (.pr (.own .imm) .imm)))], live := [], ord := [], con := [((42, [.one, .one, .one, .one]), spec_BufReplace.con N)], loops := [], joins := [] }
theorem spec_BufInsert.cons (N : Nat) : ConsOk Try.prog (spec_BufInsert.cfg N).con := (consOk_cons (hb42) (spec_BufReplace.ok N) (spec_BufReplace.det N) consOk_nil)
theorem spec_BufInsert.ls (N : Nat) : LoopsOk Try.prog (spec_BufInsert.cfg N) (fnBody Try.f24) := loopsL (l := []) (by kernel_rfl) trivial
theorem spec_BufInsert.b (N : Nat) (x0 : den (.pair (.sl 2 (.int .i64)) (.pair (.int .i64) (.pair (.int .i64) .unit)))) (x1 : den (.sl 2 (.int .i64))) : body (spec_BufInsert.cfg N) N Try.f24 [.one, .one] [.v, .v] [(false, (.pr (.pr (.own .imm) .imm) (.pr (.own .imm) .imm)))] [⟨(.pair (.sl 2 (.int .i64)) (.pair (.int .i64) (.pair (.int .i64) .unit))), .imm, x0⟩, ⟨(.sl 2 (.int .i64)), .imm, x1⟩] (fun r i => some (r, i)) = bindO (spec_BufInsert N x0 x1) fun r => some ([⟨(.pair (.pair (.sl 2 (.int .i64)) (.pair (.int .i64) (.pair (.int .i64) .unit))) (.pair (.sl 2 (.int .i64)) (.pair (.int .i64) .unit))), (.pr (.pr (.own .imm) .imm) (.pr (.own .imm) .imm)), r⟩], []) := by
  show _ = bindF _ _
  conv => rhs; simp only [spec_BufInsert, bindF_ifB, bindF_bindO, bindF_pure, bindF_none, bindF_onSum]
  kernel_rfl
theorem spec_BufInsert.ok (N : Nat) : ConOk Try.prog 24 [.one, .one] (spec_BufInsert.con N) := by
  refine conOk_mk (g := spec_BufInsert.cfg N) (N := N) (res := [(false, (.pr (.pr (.own .imm) .imm) (.pr (.own .imm) .imm)))]) tys_ok (spec_BufInsert.cons N) mixed Try.func24 (spec_BufInsert.ls N) rfl rfl ?_
  intro ds R k y h
  cases ds with
  | nil => exact none_some h
  | cons d0 ds =>
  cases ds with
  | nil => exact none_some h
  | cons d1 ds =>
  cases ds with
  | cons _ _ => exact none_some h
  | nil =>
  have h0 : (castDm (.pair (.sl 2 (.int .i64)) (.pair (.int .i64) (.pair (.int .i64) .unit))) .imm d0 fun x0 => castDm (.sl 2 (.int .i64)) .imm d1 fun x1 => bindO (spec_BufInsert N x0 x1) fun r => k [⟨(.pair (.pair (.sl 2 (.int .i64)) (.pair (.int .i64) (.pair (.int .i64) .unit))) (.pair (.sl 2 (.int .i64)) (.pair (.int .i64) .unit))), (.pr (.pr (.own .imm) .imm) (.pr (.own .imm) .imm)), r⟩] []) = some y := h
  clear h
  obtain ⟨x0, rfl, h1⟩ := castDm_eq h0
  obtain ⟨x1, rfl, h2⟩ := castDm_eq h1
  exact con_fin (spec_BufInsert.b N x0 x1) h2
theorem spec_BufInsert.det (N : Nat) : ConDet (spec_BufInsert.con N) := by
  intro ds R k y h
  cases ds with
  | nil => exact none_some h
  | cons d0 ds =>
  cases ds with
  | nil => exact none_some h
  | cons d1 ds =>
  cases ds with
  | cons _ _ => exact none_some h
  | nil =>
  have h0 : (castDm (.pair (.sl 2 (.int .i64)) (.pair (.int .i64) (.pair (.int .i64) .unit))) .imm d0 fun x0 => castDm (.sl 2 (.int .i64)) .imm d1 fun x1 => bindO (spec_BufInsert N x0 x1) fun r => k [⟨(.pair (.pair (.sl 2 (.int .i64)) (.pair (.int .i64) (.pair (.int .i64) .unit))) (.pair (.sl 2 (.int .i64)) (.pair (.int .i64) .unit))), (.pr (.pr (.own .imm) .imm) (.pr (.own .imm) .imm)), r⟩] []) = some y := h
  clear h
  obtain ⟨x0, rfl, h1⟩ := castDm_eq h0
  obtain ⟨x1, rfl, h2⟩ := castDm_eq h1
  obtain ⟨r, e, h⟩ := bindO_some h2
  refine ⟨_, _, h, fun k' => ?_⟩
  show (castDm (.pair (.sl 2 (.int .i64)) (.pair (.int .i64) (.pair (.int .i64) .unit))) .imm (⟨(.pair (.sl 2 (.int .i64)) (.pair (.int .i64) (.pair (.int .i64) .unit))), .imm, x0⟩ : Dy) fun x0 => castDm (.sl 2 (.int .i64)) .imm (⟨(.sl 2 (.int .i64)), .imm, x1⟩ : Dy) fun x1 => bindO (spec_BufInsert N x0 x1) fun r => k' [⟨(.pair (.pair (.sl 2 (.int .i64)) (.pair (.int .i64) (.pair (.int .i64) .unit))) (.pair (.sl 2 (.int .i64)) (.pair (.int .i64) .unit))), (.pr (.pr (.own .imm) .imm) (.pr (.own .imm) .imm)), r⟩] []) = _
  simp only [castDm_self]
  rw [e]
  rfl
noncomputable def spec_CompPut.con (N : Nat) : Con := { modes := [.v, .v], ptrs := [false], fn := fun ds k => match ds with | [d0, d1] => castDm (.pair (.sl 2 (.int .i64)) (.pair (.int .i64) (.pair (.int .i64) .unit))) .imm d0 fun x0 => castDm (.sl 22 (.sl 2 (.int .i64))) .imm d1 fun x1 => bindO (spec_CompPut N x0 x1) fun r => k [⟨(.pair (.pair (.sl 2 (.int .i64)) (.pair (.int .i64) (.pair (.int .i64) .unit))) (.pair (.sl 2 (.int .i64)) (.pair (.int .i64) .unit))), (.pr (.pr (.own .imm) .imm) (.pr (.own .imm) .imm)), r⟩] [] | _ => none }
noncomputable def spec_CompPut.cfg (N : Nat) : Cfg := { ty := tys, keep := [13, 17, 22, 25, 32, 36, 45], flt := [], elm := [(22, (.own .imm)), (23, (.pr (.own .imm) .imm)), (24, (.pr (.own .imm) .imm)), (25, (.own (.own .imm))), (28, (.pr (.own .imm) .imm)), (29, (.pr (.pr (.own .imm) .imm) (.pr (.own .imm) .imm))), (30, (.pr (.pr (.own .imm) .imm) (.pr (.own .imm) .imm)))], live := [], ord := [], con := [((18, [.one]), spec_BufRight.con N), ((19, [.one]), spec_CandsRight.con N), ((20, [.one]), spec_WordAhead.con N), ((21, [.one, .one]), spec_CompMatch.con N), ((23, [.one, .one]), spec_CompCommon.con N), ((22, [.one]), spec_l01Copy.con N), ((24, [.one, .one]), spec_BufInsert.con N)], loops := [], joins := [] }
theorem spec_CompPut.cons (N : Nat) : ConsOk Try.prog (spec_CompPut.cfg N).con := (consOk_cons (hb18) (spec_BufRight.ok N) (spec_BufRight.det N) (consOk_cons (hb19) (spec_CandsRight.ok N) (spec_CandsRight.det N) (consOk_cons (hb20) (spec_WordAhead.ok N) (spec_WordAhead.det N) (consOk_cons (hb21) (spec_CompMatch.ok N) (spec_CompMatch.det N) (consOk_cons (hb23) (spec_CompCommon.ok N) (spec_CompCommon.det N) (consOk_cons (hb22) (spec_l01Copy.ok N) (spec_l01Copy.det N) (consOk_cons (hb24) (spec_BufInsert.ok N) (spec_BufInsert.det N) consOk_nil)))))))
theorem spec_CompPut.ls (N : Nat) : LoopsOk Try.prog (spec_CompPut.cfg N) (fnBody Try.f6) := loopsL (l := []) (by kernel_rfl) trivial
theorem spec_CompPut.b (N : Nat) (x0 : den (.pair (.sl 2 (.int .i64)) (.pair (.int .i64) (.pair (.int .i64) .unit)))) (x1 : den (.sl 22 (.sl 2 (.int .i64)))) : body (spec_CompPut.cfg N) N Try.f6 [.one, .one] [.v, .v] [(false, (.pr (.pr (.own .imm) .imm) (.pr (.own .imm) .imm)))] [⟨(.pair (.sl 2 (.int .i64)) (.pair (.int .i64) (.pair (.int .i64) .unit))), .imm, x0⟩, ⟨(.sl 22 (.sl 2 (.int .i64))), .imm, x1⟩] (fun r i => some (r, i)) = bindO (spec_CompPut N x0 x1) fun r => some ([⟨(.pair (.pair (.sl 2 (.int .i64)) (.pair (.int .i64) (.pair (.int .i64) .unit))) (.pair (.sl 2 (.int .i64)) (.pair (.int .i64) .unit))), (.pr (.pr (.own .imm) .imm) (.pr (.own .imm) .imm)), r⟩], []) := by
  show _ = bindF _ _
  conv => rhs; simp only [spec_CompPut, bindF_ifB, bindF_bindO, bindF_pure, bindF_none, bindF_onSum]
  kernel_rfl
theorem spec_CompPut.ok (N : Nat) : ConOk Try.prog 6 [.one, .one] (spec_CompPut.con N) := by
  refine conOk_mk (g := spec_CompPut.cfg N) (N := N) (res := [(false, (.pr (.pr (.own .imm) .imm) (.pr (.own .imm) .imm)))]) tys_ok (spec_CompPut.cons N) mixed Try.func6 (spec_CompPut.ls N) rfl rfl ?_
  intro ds R k y h
  cases ds with
  | nil => exact none_some h
  | cons d0 ds =>
  cases ds with
  | nil => exact none_some h
  | cons d1 ds =>
  cases ds with
  | cons _ _ => exact none_some h
  | nil =>
  have h0 : (castDm (.pair (.sl 2 (.int .i64)) (.pair (.int .i64) (.pair (.int .i64) .unit))) .imm d0 fun x0 => castDm (.sl 22 (.sl 2 (.int .i64))) .imm d1 fun x1 => bindO (spec_CompPut N x0 x1) fun r => k [⟨(.pair (.pair (.sl 2 (.int .i64)) (.pair (.int .i64) (.pair (.int .i64) .unit))) (.pair (.sl 2 (.int .i64)) (.pair (.int .i64) .unit))), (.pr (.pr (.own .imm) .imm) (.pr (.own .imm) .imm)), r⟩] []) = some y := h
  clear h
  obtain ⟨x0, rfl, h1⟩ := castDm_eq h0
  obtain ⟨x1, rfl, h2⟩ := castDm_eq h1
  exact con_fin (spec_CompPut.b N x0 x1) h2
theorem spec_CompPut.det (N : Nat) : ConDet (spec_CompPut.con N) := by
  intro ds R k y h
  cases ds with
  | nil => exact none_some h
  | cons d0 ds =>
  cases ds with
  | nil => exact none_some h
  | cons d1 ds =>
  cases ds with
  | cons _ _ => exact none_some h
  | nil =>
  have h0 : (castDm (.pair (.sl 2 (.int .i64)) (.pair (.int .i64) (.pair (.int .i64) .unit))) .imm d0 fun x0 => castDm (.sl 22 (.sl 2 (.int .i64))) .imm d1 fun x1 => bindO (spec_CompPut N x0 x1) fun r => k [⟨(.pair (.pair (.sl 2 (.int .i64)) (.pair (.int .i64) (.pair (.int .i64) .unit))) (.pair (.sl 2 (.int .i64)) (.pair (.int .i64) .unit))), (.pr (.pr (.own .imm) .imm) (.pr (.own .imm) .imm)), r⟩] []) = some y := h
  clear h
  obtain ⟨x0, rfl, h1⟩ := castDm_eq h0
  obtain ⟨x1, rfl, h2⟩ := castDm_eq h1
  obtain ⟨r, e, h⟩ := bindO_some h2
  refine ⟨_, _, h, fun k' => ?_⟩
  show (castDm (.pair (.sl 2 (.int .i64)) (.pair (.int .i64) (.pair (.int .i64) .unit))) .imm (⟨(.pair (.sl 2 (.int .i64)) (.pair (.int .i64) (.pair (.int .i64) .unit))), .imm, x0⟩ : Dy) fun x0 => castDm (.sl 22 (.sl 2 (.int .i64))) .imm (⟨(.sl 22 (.sl 2 (.int .i64))), .imm, x1⟩ : Dy) fun x1 => bindO (spec_CompPut N x0 x1) fun r => k' [⟨(.pair (.pair (.sl 2 (.int .i64)) (.pair (.int .i64) (.pair (.int .i64) .unit))) (.pair (.sl 2 (.int .i64)) (.pair (.int .i64) .unit))), (.pr (.pr (.own .imm) .imm) (.pr (.own .imm) .imm)), r⟩] []) = _
  simp only [castDm_self]
  rw [e]
  rfl
noncomputable def impl_isMany.con (N : Nat) : Con := { modes := [.v], ptrs := [false], fn := fun ds k => match ds with | [d0] => castDm (.int .i64) .imm d0 fun x0 => bindO (impl_isMany N x0) fun r => k [⟨.bool, .imm, r⟩] [] | _ => none }
noncomputable def impl_isMany.cfg (N : Nat) : Cfg := { ty := tys, keep := [], flt := [], elm := [(22, (.own .imm)), (23, (.pr (.own .imm) .imm)), (24, (.pr (.own .imm) .imm)), (25, (.own (.own .imm))), (28, (.pr (.own .imm) .imm)), (29, (.pr (.pr (.own .imm) .imm) (.pr (.own .imm) .imm))), (30, (.pr (.pr (.own .imm) .imm) (.pr (.own .imm) .imm)))], live := [], ord := [], con := [], loops := [], joins := [] }
theorem impl_isMany.cons (N : Nat) : ConsOk Try.prog (impl_isMany.cfg N).con := consOk_nil
theorem impl_isMany.ls (N : Nat) : LoopsOk Try.prog (impl_isMany.cfg N) (fnBody Try.f26) := loopsL (l := []) (by kernel_rfl) trivial
theorem impl_isMany.b (N : Nat) (x0 : den (.int .i64)) : body (impl_isMany.cfg N) N Try.f26 [.one] [.v] [(false, .imm)] [⟨(.int .i64), .imm, x0⟩] (fun r i => some (r, i)) = bindO (impl_isMany N x0) fun r => some ([⟨.bool, .imm, r⟩], []) := by
  show _ = bindF _ _
  conv => rhs; simp only [impl_isMany, bindF_ifB, bindF_bindO, bindF_pure, bindF_none, bindF_onSum]
  kernel_rfl
theorem impl_isMany.ok (N : Nat) : ConOk Try.prog 26 [.one] (impl_isMany.con N) := by
  refine conOk_mk (g := impl_isMany.cfg N) (N := N) (res := [(false, .imm)]) tys_ok (impl_isMany.cons N) mixed Try.func26 (impl_isMany.ls N) rfl rfl ?_
  intro ds R k y h
  cases ds with
  | nil => exact none_some h
  | cons d0 ds =>
  cases ds with
  | cons _ _ => exact none_some h
  | nil =>
  have h0 : (castDm (.int .i64) .imm d0 fun x0 => bindO (impl_isMany N x0) fun r => k [⟨.bool, .imm, r⟩] []) = some y := h
  clear h
  obtain ⟨x0, rfl, h1⟩ := castDm_eq h0
  exact con_fin (impl_isMany.b N x0) h1
theorem impl_isMany.det (N : Nat) : ConDet (impl_isMany.con N) := by
  intro ds R k y h
  cases ds with
  | nil => exact none_some h
  | cons d0 ds =>
  cases ds with
  | cons _ _ => exact none_some h
  | nil =>
  have h0 : (castDm (.int .i64) .imm d0 fun x0 => bindO (impl_isMany N x0) fun r => k [⟨.bool, .imm, r⟩] []) = some y := h
  clear h
  obtain ⟨x0, rfl, h1⟩ := castDm_eq h0
  obtain ⟨r, e, h⟩ := bindO_some h1
  refine ⟨_, _, h, fun k' => ?_⟩
  show (castDm (.int .i64) .imm (⟨(.int .i64), .imm, x0⟩ : Dy) fun x0 => bindO (impl_isMany N x0) fun r => k' [⟨.bool, .imm, r⟩] []) = _
  simp only [castDm_self]
  rw [e]
  rfl
noncomputable def impl_within.con (N : Nat) : Con := { modes := [.v, .v, .v], ptrs := [false], fn := fun ds k => match ds with | [d0, d1, d2] => castDm (.int .i64) .imm d0 fun x0 => castDm (.int .i64) .imm d1 fun x1 => castDm (.int .i64) .imm d2 fun x2 => bindO (impl_within N x0 x1 x2) fun r => k [⟨.bool, .imm, r⟩] [] | _ => none }
noncomputable def impl_within.cfg (N : Nat) : Cfg := { ty := tys, keep := [], flt := [], elm := [(22, (.own .imm)), (23, (.pr (.own .imm) .imm)), (24, (.pr (.own .imm) .imm)), (25, (.own (.own .imm))), (28, (.pr (.own .imm) .imm)), (29, (.pr (.pr (.own .imm) .imm) (.pr (.own .imm) .imm))), (30, (.pr (.pr (.own .imm) .imm) (.pr (.own .imm) .imm)))], live := [], ord := [], con := [], loops := [], joins := [] }
theorem impl_within.cons (N : Nat) : ConsOk Try.prog (impl_within.cfg N).con := consOk_nil
theorem impl_within.ls (N : Nat) : LoopsOk Try.prog (impl_within.cfg N) (fnBody Try.f47) := loopsL (l := []) (by kernel_rfl) trivial
theorem impl_within.b (N : Nat) (x0 : den (.int .i64)) (x1 : den (.int .i64)) (x2 : den (.int .i64)) : body (impl_within.cfg N) N Try.f47 [.one, .one, .one] [.v, .v, .v] [(false, .imm)] [⟨(.int .i64), .imm, x0⟩, ⟨(.int .i64), .imm, x1⟩, ⟨(.int .i64), .imm, x2⟩] (fun r i => some (r, i)) = bindO (impl_within N x0 x1 x2) fun r => some ([⟨.bool, .imm, r⟩], []) := by
  show _ = bindF _ _
  conv => rhs; simp only [impl_within, bindF_ifB, bindF_bindO, bindF_pure, bindF_none, bindF_onSum]
  kernel_rfl
theorem impl_within.ok (N : Nat) : ConOk Try.prog 47 [.one, .one, .one] (impl_within.con N) := by
  refine conOk_mk (g := impl_within.cfg N) (N := N) (res := [(false, .imm)]) tys_ok (impl_within.cons N) mixed Try.func47 (impl_within.ls N) rfl rfl ?_
  intro ds R k y h
  cases ds with
  | nil => exact none_some h
  | cons d0 ds =>
  cases ds with
  | nil => exact none_some h
  | cons d1 ds =>
  cases ds with
  | nil => exact none_some h
  | cons d2 ds =>
  cases ds with
  | cons _ _ => exact none_some h
  | nil =>
  have h0 : (castDm (.int .i64) .imm d0 fun x0 => castDm (.int .i64) .imm d1 fun x1 => castDm (.int .i64) .imm d2 fun x2 => bindO (impl_within N x0 x1 x2) fun r => k [⟨.bool, .imm, r⟩] []) = some y := h
  clear h
  obtain ⟨x0, rfl, h1⟩ := castDm_eq h0
  obtain ⟨x1, rfl, h2⟩ := castDm_eq h1
  obtain ⟨x2, rfl, h3⟩ := castDm_eq h2
  exact con_fin (impl_within.b N x0 x1 x2) h3
theorem impl_within.det (N : Nat) : ConDet (impl_within.con N) := by
  intro ds R k y h
  cases ds with
  | nil => exact none_some h
  | cons d0 ds =>
  cases ds with
  | nil => exact none_some h
  | cons d1 ds =>
  cases ds with
  | nil => exact none_some h
  | cons d2 ds =>
  cases ds with
  | cons _ _ => exact none_some h
  | nil =>
  have h0 : (castDm (.int .i64) .imm d0 fun x0 => castDm (.int .i64) .imm d1 fun x1 => castDm (.int .i64) .imm d2 fun x2 => bindO (impl_within N x0 x1 x2) fun r => k [⟨.bool, .imm, r⟩] []) = some y := h
  clear h
  obtain ⟨x0, rfl, h1⟩ := castDm_eq h0
  obtain ⟨x1, rfl, h2⟩ := castDm_eq h1
  obtain ⟨x2, rfl, h3⟩ := castDm_eq h2
  obtain ⟨r, e, h⟩ := bindO_some h3
  refine ⟨_, _, h, fun k' => ?_⟩
  show (castDm (.int .i64) .imm (⟨(.int .i64), .imm, x0⟩ : Dy) fun x0 => castDm (.int .i64) .imm (⟨(.int .i64), .imm, x1⟩ : Dy) fun x1 => castDm (.int .i64) .imm (⟨(.int .i64), .imm, x2⟩ : Dy) fun x2 => bindO (impl_within N x0 x1 x2) fun r => k' [⟨.bool, .imm, r⟩] []) = _
  simp only [castDm_self]
  rw [e]
  rfl
end Go.AE.F
