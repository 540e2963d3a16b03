/- The printed functions are what the program comes to: contracts. -/
import Derived.Test.YtfmifmmajilgmaaLCompPutL3
namespace Go.AE.F
open Go.AE Go.Proofs
set_option maxRecDepth 100000
noncomputable def slices_ContainsFunc_S_Sint64__Sint64__impl_CandsRight_c1.con (N : Nat) : Con := { modes := [.v], ptrs := [false], fn := fun ds k => match ds with | [d0] => castDm (.sl 23 (.sl 2 (.int .i64))) .imm d0 fun x0 => bindO (slices_ContainsFunc_S_Sint64__Sint64__impl_CandsRight_c1 N x0) fun r => k [⟨.bool, .imm, r⟩] [] | _ => none }
noncomputable def slices_ContainsFunc_S_Sint64__Sint64__impl_CandsRight_c1.cfg (N : Nat) : Cfg := { ty := tys, keep := [7], flt := [], elm := [(22, (.own .imm)), (23, (.own .imm)), (24, (.pr (.own .imm) .imm)), (25, (.pr (.own .imm) .imm)), (26, (.own (.own .imm))), (29, (.pr (.pr (.own .imm) .imm) (.pr (.own .imm) .imm))), (30, (.pr (.pr (.own .imm) .imm) (.pr (.own .imm) .imm))), (54, (.pr (.own .imm) .imm)), (55, (.pr (.own .imm) .imm)), (61, (.own .imm))], live := [], ord := [], con := [((66, [.one, .fn 48 0]), slices_IndexFunc_S_Sint64__Sint64__impl_CandsRight_c1.con N)], loops := [], joins := [] }
theorem slices_ContainsFunc_S_Sint64__Sint64__impl_CandsRight_c1.cons (N : Nat) : ConsOk Try.prog (slices_ContainsFunc_S_Sint64__Sint64__impl_CandsRight_c1.cfg N).con := (consOk_cons (hb66) (slices_IndexFunc_S_Sint64__Sint64__impl_CandsRight_c1.ok N) (slices_IndexFunc_S_Sint64__Sint64__impl_CandsRight_c1.det N) consOk_nil)
theorem slices_ContainsFunc_S_Sint64__Sint64__impl_CandsRight_c1.ls (N : Nat) : LoopsOk Try.prog (slices_ContainsFunc_S_Sint64__Sint64__impl_CandsRight_c1.cfg N) (fnBody Try.f47) := loopsL (l := []) (by kernel_rfl) trivial
theorem slices_ContainsFunc_S_Sint64__Sint64__impl_CandsRight_c1.b (N : Nat) (x0 : den (.sl 23 (.sl 2 (.int .i64)))) : body (slices_ContainsFunc_S_Sint64__Sint64__impl_CandsRight_c1.cfg N) N Try.f47 [.one, .fn 48 0] [.v] [(false, .imm)] [⟨(.sl 23 (.sl 2 (.int .i64))), .imm, x0⟩] (fun r i => some (r, i)) = bindO (slices_ContainsFunc_S_Sint64__Sint64__impl_CandsRight_c1 N x0) fun r => some ([⟨.bool, .imm, r⟩], []) := by
  show _ = bindF _ _
  conv => rhs; simp only [slices_ContainsFunc_S_Sint64__Sint64__impl_CandsRight_c1, bindF_ifB, bindF_bindO, bindF_pure, bindF_none, bindF_onSum]
  kernel_rfl
theorem slices_ContainsFunc_S_Sint64__Sint64__impl_CandsRight_c1.ok (N : Nat) : ConOk Try.prog 47 [.one, .fn 48 0] (slices_ContainsFunc_S_Sint64__Sint64__impl_CandsRight_c1.con N) := by
  refine conOk_mk (g := slices_ContainsFunc_S_Sint64__Sint64__impl_CandsRight_c1.cfg N) (N := N) (res := [(false, .imm)]) tys_ok (slices_ContainsFunc_S_Sint64__Sint64__impl_CandsRight_c1.cons N) mixed Try.func47 (slices_ContainsFunc_S_Sint64__Sint64__impl_CandsRight_c1.ls N) rfl rfl ?_
  intro ds R k y h
  cases ds with
  | nil => exact none_some h
  | cons d0 ds =>
  cases ds with
  | cons _ _ => exact none_some h
  | nil =>
  have h0 : (castDm (.sl 23 (.sl 2 (.int .i64))) .imm d0 fun x0 => bindO (slices_ContainsFunc_S_Sint64__Sint64__impl_CandsRight_c1 N x0) fun r => k [⟨.bool, .imm, r⟩] []) = some y := h
  clear h
  obtain ⟨x0, rfl, h1⟩ := castDm_eq h0
  exact con_fin (slices_ContainsFunc_S_Sint64__Sint64__impl_CandsRight_c1.b N x0) h1
theorem slices_ContainsFunc_S_Sint64__Sint64__impl_CandsRight_c1.det (N : Nat) : ConDet (slices_ContainsFunc_S_Sint64__Sint64__impl_CandsRight_c1.con N) := by
  intro ds R k y h
  cases ds with
  | nil => exact none_some h
  | cons d0 ds =>
  cases ds with
  | cons _ _ => exact none_some h
  | nil =>
  have h0 : (castDm (.sl 23 (.sl 2 (.int .i64))) .imm d0 fun x0 => bindO (slices_ContainsFunc_S_Sint64__Sint64__impl_CandsRight_c1 N x0) fun r => k [⟨.bool, .imm, r⟩] []) = some y := h
  clear h
  obtain ⟨x0, rfl, h1⟩ := castDm_eq h0
  obtain ⟨r, e, h⟩ := bindO_some h1
  refine ⟨_, _, h, fun k' => ?_⟩
  show (castDm (.sl 23 (.sl 2 (.int .i64))) .imm (⟨(.sl 23 (.sl 2 (.int .i64))), .imm, x0⟩ : Dy) fun x0 => bindO (slices_ContainsFunc_S_Sint64__Sint64__impl_CandsRight_c1 N x0) fun r => k' [⟨.bool, .imm, r⟩] []) = _
  simp only [castDm_self]
  rw [e]
  rfl
noncomputable def impl_CandsRight.con (N : Nat) : Con := { modes := [.v], ptrs := [false], fn := fun ds k => match ds with | [d0] => castDm (.sl 23 (.sl 2 (.int .i64))) .imm d0 fun x0 => bindO (impl_CandsRight N x0) fun r => k [⟨.bool, .imm, r⟩] [] | _ => none }
noncomputable def impl_CandsRight.cfg (N : Nat) : Cfg := { ty := tys, keep := [8], flt := [], elm := [(22, (.own .imm)), (23, (.own .imm)), (24, (.pr (.own .imm) .imm)), (25, (.pr (.own .imm) .imm)), (26, (.own (.own .imm))), (29, (.pr (.pr (.own .imm) .imm) (.pr (.own .imm) .imm))), (30, (.pr (.pr (.own .imm) .imm) (.pr (.own .imm) .imm))), (54, (.pr (.own .imm) .imm)), (55, (.pr (.own .imm) .imm)), (61, (.own .imm))], live := [], ord := [], con := [((47, [.one, .fn 48 0]), slices_ContainsFunc_S_Sint64__Sint64__impl_CandsRight_c1.con N)], loops := [], joins := [] }
theorem impl_CandsRight.cons (N : Nat) : ConsOk Try.prog (impl_CandsRight.cfg N).con := (consOk_cons (hb47) (slices_ContainsFunc_S_Sint64__Sint64__impl_CandsRight_c1.ok N) (slices_ContainsFunc_S_Sint64__Sint64__impl_CandsRight_c1.det N) consOk_nil)
theorem impl_CandsRight.ls (N : Nat) : LoopsOk Try.prog (impl_CandsRight.cfg N) (fnBody Try.f27) := loopsL (l := []) (by kernel_rfl) trivial
theorem impl_CandsRight.b (N : Nat) (x0 : den (.sl 23 (.sl 2 (.int .i64)))) : body (impl_CandsRight.cfg N) N Try.f27 [.one] [.v] [(false, .imm)] [⟨(.sl 23 (.sl 2 (.int .i64))), .imm, x0⟩] (fun r i => some (r, i)) = bindO (impl_CandsRight N x0) fun r => some ([⟨.bool, .imm, r⟩], []) := by
  show _ = bindF _ _
  conv => rhs; simp only [impl_CandsRight, bindF_ifB, bindF_bindO, bindF_pure, bindF_none, bindF_onSum]
  kernel_rfl
theorem impl_CandsRight.ok (N : Nat) : ConOk Try.prog 27 [.one] (impl_CandsRight.con N) := by
  refine conOk_mk (g := impl_CandsRight.cfg N) (N := N) (res := [(false, .imm)]) tys_ok (impl_CandsRight.cons N) mixed Try.func27 (impl_CandsRight.ls N) rfl rfl ?_
  intro ds R k y h
  cases ds with
  | nil => exact none_some h
  | cons d0 ds =>
  cases ds with
  | cons _ _ => exact none_some h
  | nil =>
  have h0 : (castDm (.sl 23 (.sl 2 (.int .i64))) .imm d0 fun x0 => bindO (impl_CandsRight N x0) fun r => k [⟨.bool, .imm, r⟩] []) = some y := h
  clear h
  obtain ⟨x0, rfl, h1⟩ := castDm_eq h0
  exact con_fin (impl_CandsRight.b N x0) h1
theorem impl_CandsRight.det (N : Nat) : ConDet (impl_CandsRight.con N) := by
  intro ds R k y h
  cases ds with
  | nil => exact none_some h
  | cons d0 ds =>
  cases ds with
  | cons _ _ => exact none_some h
  | nil =>
  have h0 : (castDm (.sl 23 (.sl 2 (.int .i64))) .imm d0 fun x0 => bindO (impl_CandsRight N x0) fun r => k [⟨.bool, .imm, r⟩] []) = some y := h
  clear h
  obtain ⟨x0, rfl, h1⟩ := castDm_eq h0
  obtain ⟨r, e, h⟩ := bindO_some h1
  refine ⟨_, _, h, fun k' => ?_⟩
  show (castDm (.sl 23 (.sl 2 (.int .i64))) .imm (⟨(.sl 23 (.sl 2 (.int .i64))), .imm, x0⟩ : Dy) fun x0 => bindO (impl_CandsRight N x0) fun r => k' [⟨.bool, .imm, r⟩] []) = _
  simp only [castDm_self]
  rw [e]
  rfl
noncomputable def impl_Buf_isWord.con (N : Nat) : Con := { modes := [.rd, .v], ptrs := [false], fn := fun ds k => match ds with | [d0, d1] => castDm (.pair (.sl 2 (.int .i64)) (.pair (.int .i64) (.pair (.int .i64) .unit))) .imm d0 fun x0 => castDm (.int .i64) .imm d1 fun x1 => bindO (impl_Buf_isWord N x0 x1) fun r => k [⟨.bool, .imm, r⟩] [] | _ => none }
noncomputable def impl_Buf_isWord.cfg (N : Nat) : Cfg := { ty := tys, keep := [12], flt := [], elm := [(22, (.own .imm)), (23, (.own .imm)), (24, (.pr (.own .imm) .imm)), (25, (.pr (.own .imm) .imm)), (26, (.own (.own .imm))), (29, (.pr (.pr (.own .imm) .imm) (.pr (.own .imm) .imm))), (30, (.pr (.pr (.own .imm) .imm) (.pr (.own .imm) .imm))), (54, (.pr (.own .imm) .imm)), (55, (.pr (.own .imm) .imm)), (61, (.own .imm))], live := [], ord := [], con := [((53, [.one]), impl_ClassOf.con N)], loops := [], joins := [] }
theorem impl_Buf_isWord.cons (N : Nat) : ConsOk Try.prog (impl_Buf_isWord.cfg N).con := (consOk_cons (hb53) (impl_ClassOf.ok N) (impl_ClassOf.det N) consOk_nil)
theorem impl_Buf_isWord.ls (N : Nat) : LoopsOk Try.prog (impl_Buf_isWord.cfg N) (fnBody Try.f54) := loopsL (l := []) (by kernel_rfl) trivial
theorem impl_Buf_isWord.b (N : Nat) (x0 : den (.pair (.sl 2 (.int .i64)) (.pair (.int .i64) (.pair (.int .i64) .unit)))) (x1 : den (.int .i64)) : body (impl_Buf_isWord.cfg N) N Try.f54 [.one, .one] [.rd, .v] [(false, .imm)] [⟨(.pair (.sl 2 (.int .i64)) (.pair (.int .i64) (.pair (.int .i64) .unit))), .imm, x0⟩, ⟨(.int .i64), .imm, x1⟩] (fun r i => some (r, i)) = bindO (impl_Buf_isWord N x0 x1) fun r => some ([⟨.bool, .imm, r⟩], []) := by
  show _ = bindF _ _
  conv => rhs; simp only [impl_Buf_isWord, bindF_ifB, bindF_bindO, bindF_pure, bindF_none, bindF_onSum]
  kernel_rfl
theorem impl_Buf_isWord.ok (N : Nat) : ConOk Try.prog 54 [.one, .one] (impl_Buf_isWord.con N) := by
  refine conOk_mk (g := impl_Buf_isWord.cfg N) (N := N) (res := [(false, .imm)]) tys_ok (impl_Buf_isWord.cons N) mixed Try.func54 (impl_Buf_isWord.ls N) rfl rfl ?_
  intro ds R k y h
  cases ds with
  | nil => exact none_some h
  | cons d0 ds =>
  cases ds with
  | nil => exact none_some h
  | cons d1 ds =>
  cases ds with
  | cons _ _ => exact none_some h
  | nil =>
  have h0 : (castDm (.pair (.sl 2 (.int .i64)) (.pair (.int .i64) (.pair (.int .i64) .unit))) .imm d0 fun x0 => castDm (.int .i64) .imm d1 fun x1 => bindO (impl_Buf_isWord N x0 x1) fun r => k [⟨.bool, .imm, r⟩] []) = some y := h
  clear h
  obtain ⟨x0, rfl, h1⟩ := castDm_eq h0
  obtain ⟨x1, rfl, h2⟩ := castDm_eq h1
  exact con_fin (impl_Buf_isWord.b N x0 x1) h2
theorem impl_Buf_isWord.det (N : Nat) : ConDet (impl_Buf_isWord.con N) := by
  intro ds R k y h
  cases ds with
  | nil => exact none_some h
  | cons d0 ds =>
  cases ds with
  | nil => exact none_some h
  | cons d1 ds =>
  cases ds with
  | cons _ _ => exact none_some h
  | nil =>
  have h0 : (castDm (.pair (.sl 2 (.int .i64)) (.pair (.int .i64) (.pair (.int .i64) .unit))) .imm d0 fun x0 => castDm (.int .i64) .imm d1 fun x1 => bindO (impl_Buf_isWord N x0 x1) fun r => k [⟨.bool, .imm, r⟩] []) = some y := h
  clear h
  obtain ⟨x0, rfl, h1⟩ := castDm_eq h0
  obtain ⟨x1, rfl, h2⟩ := castDm_eq h1
  obtain ⟨r, e, h⟩ := bindO_some h2
  refine ⟨_, _, h, fun k' => ?_⟩
  show (castDm (.pair (.sl 2 (.int .i64)) (.pair (.int .i64) (.pair (.int .i64) .unit))) .imm (⟨(.pair (.sl 2 (.int .i64)) (.pair (.int .i64) (.pair (.int .i64) .unit))), .imm, x0⟩ : Dy) fun x0 => castDm (.int .i64) .imm (⟨(.int .i64), .imm, x1⟩ : Dy) fun x1 => bindO (impl_Buf_isWord N x0 x1) fun r => k' [⟨.bool, .imm, r⟩] []) = _
  simp only [castDm_self]
  rw [e]
  rfl
def impl_Buf_ahead.sk2 : Skel := ⟨[.rp (.pair (.sl 2 (.int .i64)) (.pair (.int .i64) (.pair (.int .i64) .unit))), .dead, .dead, .pv (.int .i64), .dead, .dead, .dead, .dead, .dead, .dead, .dead, .dead, .dead, .dead, .dead, .dead, .dead, .dead, .dead, .dead, .dead, .dead, .dead, .dead, .dead, .dead, .dead, .dead], []⟩
def impl_Buf_ahead.xs2 : List XS := [⟨.exit 0, [0, 3], ⟨[.rp (.pair (.sl 2 (.int .i64)) (.pair (.int .i64) (.pair (.int .i64) .unit))), .dead, .dead, .pv (.int .i64), .dead, .dead, .dead, .dead, .dead, .dead, .dead, .dead, .dead, .dead, .dead, .dead, .dead, .dead, .dead, .dead, .dead, .dead, .dead, .dead, .dead, .dead, .dead, .dead], []⟩⟩]
noncomputable def impl_Buf_ahead.con (N : Nat) : Con := { modes := [.rd], ptrs := [false], fn := fun ds k => match ds with | [d0] => castDm (.pair (.sl 2 (.int .i64)) (.pair (.int .i64) (.pair (.int .i64) .unit))) .imm d0 fun x0 => bindO (impl_Buf_ahead N x0) fun r => k [⟨(.sl 2 (.int .i64)), .imm, r⟩] [] | _ => none }
noncomputable def impl_Buf_ahead.cfg (N : Nat) : Cfg := { ty := tys, keep := [14], flt := [], elm := [(22, (.own .imm)), (23, (.own .imm)), (24, (.pr (.own .imm) .imm)), (25, (.pr (.own .imm) .imm)), (26, (.own (.own .imm))), (29, (.pr (.pr (.own .imm) .imm) (.pr (.own .imm) .imm))), (30, (.pr (.pr (.own .imm) .imm) (.pr (.own .imm) .imm))), (54, (.pr (.own .imm) .imm)), (55, (.pr (.own .imm) .imm)), (61, (.own .imm))], live := [(2, [0, 3, 11, 12, 13, 14])], ord := [(4, [0, 1, 2, 3, 4, 5, 6, 7, 8, 9, 10])], con := [((54, [.one, .one]), impl_Buf_isWord.con N)], loops := [(2, loopCon N impl_Buf_ahead.sk2 impl_Buf_ahead.xs2 (fun {R} => impl_Buf_ahead.l2 (R := R) N))], joins := [] }
theorem impl_Buf_ahead.cons (N : Nat) : ConsOk Try.prog (impl_Buf_ahead.cfg N).con := (consOk_cons (hb54) (impl_Buf_isWord.ok N) (impl_Buf_isWord.det N) consOk_nil)
theorem impl_Buf_ahead.h2 {R : Type} (N : Nat) (d : impl_Buf_ahead.sk2.D) (kn : impl_Buf_ahead.sk2.D → Option R) (kx : XD impl_Buf_ahead.xs2 → Option R) : roundK (impl_Buf_ahead.cfg N) N (nthLoop (fnBody Try.f28) 0) impl_Buf_ahead.sk2 impl_Buf_ahead.xs2 d kn kx = impl_Buf_ahead.l2 N d kn kx := by kernel_rfl
theorem impl_Buf_ahead.i2 (N : Nat) : LoopsOk Try.prog (impl_Buf_ahead.cfg N) (nthLoop (fnBody Try.f28) 0) := loopsL (l := []) (by kernel_rfl) trivial
theorem impl_Buf_ahead.o2 (N : Nat) : LoopOk Try.prog (nthLoop (fnBody Try.f28) 0) (loopCon N impl_Buf_ahead.sk2 impl_Buf_ahead.xs2 (fun {R} => impl_Buf_ahead.l2 (R := R) N)) := loop_ok (g := impl_Buf_ahead.cfg N) tys_ok (impl_Buf_ahead.cons N) mixed (impl_Buf_ahead.i2 N) (fun d kn kx => impl_Buf_ahead.h2 N d kn kx)
theorem impl_Buf_ahead.ls (N : Nat) : LoopsOk Try.prog (impl_Buf_ahead.cfg N) (fnBody Try.f28) := loopsL (l := [nthLoop (fnBody Try.f28) 0]) (by kernel_rfl) ⟨loopOne (L0 := loopCon N impl_Buf_ahead.sk2 impl_Buf_ahead.xs2 (fun {R} => impl_Buf_ahead.l2 (R := R) N)) (id := 2) (by kernel_rfl) (by kernel_rfl) (impl_Buf_ahead.o2 N), trivial⟩
theorem impl_Buf_ahead.q2 {R R' : Type} {N n : Nat} {d} {k} {g : R → Option R'} : bindF (loopP (impl_Buf_ahead.l2 N) n d k) g = loopP (impl_Buf_ahead.l2 N) n d fun e => bindF (k e) g := bindF_loopP (fun d kn kx => by simp only [impl_Buf_ahead.l2, bindF_ifB, bindF_bindO, bindF_pure, bindF_none, bindF_onSum]) n d k
theorem impl_Buf_ahead.b (N : Nat) (x0 : den (.pair (.sl 2 (.int .i64)) (.pair (.int .i64) (.pair (.int .i64) .unit)))) : body (impl_Buf_ahead.cfg N) N Try.f28 [.one] [.rd] [(false, .imm)] [⟨(.pair (.sl 2 (.int .i64)) (.pair (.int .i64) (.pair (.int .i64) .unit))), .imm, x0⟩] (fun r i => some (r, i)) = bindO (impl_Buf_ahead N x0) fun r => some ([⟨(.sl 2 (.int .i64)), .imm, r⟩], []) := by
  show _ = bindF _ _
  conv => rhs; simp only [impl_Buf_ahead, bindF_ifB, bindF_bindO, bindF_pure, bindF_none, bindF_onSum, impl_Buf_ahead.q2]
  kernel_rfl
theorem impl_Buf_ahead.ok (N : Nat) : ConOk Try.prog 28 [.one] (impl_Buf_ahead.con N) := by
  refine conOk_mk (g := impl_Buf_ahead.cfg N) (N := N) (res := [(false, .imm)]) tys_ok (impl_Buf_ahead.cons N) mixed Try.func28 (impl_Buf_ahead.ls N) rfl rfl ?_
  intro ds R k y h
  cases ds with
  | nil => exact none_some h
  | cons d0 ds =>
  cases ds with
  | cons _ _ => exact none_some h
  | nil =>
  have h0 : (castDm (.pair (.sl 2 (.int .i64)) (.pair (.int .i64) (.pair (.int .i64) .unit))) .imm d0 fun x0 => bindO (impl_Buf_ahead N x0) fun r => k [⟨(.sl 2 (.int .i64)), .imm, r⟩] []) = some y := h
  clear h
  obtain ⟨x0, rfl, h1⟩ := castDm_eq h0
  exact con_fin (impl_Buf_ahead.b N x0) h1
theorem impl_Buf_ahead.det (N : Nat) : ConDet (impl_Buf_ahead.con N) := by
  intro ds R k y h
  cases ds with
  | nil => exact none_some h
  | cons d0 ds =>
  cases ds with
  | cons _ _ => exact none_some h
  | nil =>
  have h0 : (castDm (.pair (.sl 2 (.int .i64)) (.pair (.int .i64) (.pair (.int .i64) .unit))) .imm d0 fun x0 => bindO (impl_Buf_ahead N x0) fun r => k [⟨(.sl 2 (.int .i64)), .imm, r⟩] []) = some y := h
  clear h
  obtain ⟨x0, rfl, h1⟩ := castDm_eq h0
  obtain ⟨r, e, h⟩ := bindO_some h1
  refine ⟨_, _, h, fun k' => ?_⟩
  show (castDm (.pair (.sl 2 (.int .i64)) (.pair (.int .i64) (.pair (.int .i64) .unit))) .imm (⟨(.pair (.sl 2 (.int .i64)) (.pair (.int .i64) (.pair (.int .i64) .unit))), .imm, x0⟩ : Dy) fun x0 => bindO (impl_Buf_ahead N x0) fun r => k' [⟨(.sl 2 (.int .i64)), .imm, r⟩] []) = _
  simp only [castDm_self]
  rw [e]
  rfl
def slices_Equal_Sint64_int64.sk4 : Skel := ⟨[.pv (.sl 2 (.int .i64)), .pv (.sl 2 (.int .i64)), .dead, .dead, .dead, .dead, .dead, .dead, .dead, .dead, .dead, .dead, .pv (.int .i64), .pv (.int .i64), .dead, .dead, .dead, .dead, .dead, .dead, .dead, .dead, .dead, .dead, .dead, .dead], []⟩
def slices_Equal_Sint64_int64.xs4 : List XS := [⟨.exit 0, [], ⟨[.dead, .dead, .dead, .dead, .dead, .dead, .dead, .dead, .dead, .dead, .dead, .dead, .dead, .dead, .dead, .dead, .dead, .dead, .dead, .dead, .dead, .dead, .dead, .dead, .dead, .dead], []⟩⟩, ⟨.ret, [4], ⟨[.dead, .dead, .dead, .dead, .pv .bool, .dead, .dead, .dead, .dead, .dead, .dead, .dead, .dead, .dead, .dead, .dead, .dead, .dead, .dead, .dead, .dead, .dead, .dead, .dead, .dead, .dead], []⟩⟩]
noncomputable def slices_Equal_Sint64_int64.con (N : Nat) : Con := { modes := [.v, .v], ptrs := [false], fn := fun ds k => match ds with | [d0, d1] => castDm (.sl 2 (.int .i64)) .imm d0 fun x0 => castDm (.sl 2 (.int .i64)) .imm d1 fun x1 => bindO (slices_Equal_Sint64_int64 N x0 x1) fun r => k [⟨.bool, .imm, r⟩] [] | _ => none }
noncomputable def slices_Equal_Sint64_int64.cfg (N : Nat) : Cfg := { ty := tys, keep := [], flt := [], elm := [(22, (.own .imm)), (23, (.own .imm)), (24, (.pr (.own .imm) .imm)), (25, (.pr (.own .imm) .imm)), (26, (.own (.own .imm))), (29, (.pr (.pr (.own .imm) .imm) (.pr (.own .imm) .imm))), (30, (.pr (.pr (.own .imm) .imm) (.pr (.own .imm) .imm))), (54, (.pr (.own .imm) .imm)), (55, (.pr (.own .imm) .imm)), (61, (.own .imm))], live := [(4, [0, 1, 12, 13])], ord := [(6, [0, 1, 2, 3, 4, 5, 6, 7, 8])], con := [], loops := [(4, loopCon N slices_Equal_Sint64_int64.sk4 slices_Equal_Sint64_int64.xs4 (fun {R} => slices_Equal_Sint64_int64.l4 (R := R) N))], joins := [] }
theorem slices_Equal_Sint64_int64.cons (N : Nat) : ConsOk Try.prog (slices_Equal_Sint64_int64.cfg N).con := consOk_nil
theorem slices_Equal_Sint64_int64.h4 {R : Type} (N : Nat) (d : slices_Equal_Sint64_int64.sk4.D) (kn : slices_Equal_Sint64_int64.sk4.D → Option R) (kx : XD slices_Equal_Sint64_int64.xs4 → Option R) : roundK (slices_Equal_Sint64_int64.cfg N) N (nthLoop (fnBody Try.f68) 0) slices_Equal_Sint64_int64.sk4 slices_Equal_Sint64_int64.xs4 d kn kx = slices_Equal_Sint64_int64.l4 N d kn kx := by kernel_rfl
theorem slices_Equal_Sint64_int64.i4 (N : Nat) : LoopsOk Try.prog (slices_Equal_Sint64_int64.cfg N) (nthLoop (fnBody Try.f68) 0) := loopsL (l := []) (by kernel_rfl) trivial
theorem slices_Equal_Sint64_int64.o4 (N : Nat) : LoopOk Try.prog (nthLoop (fnBody Try.f68) 0) (loopCon N slices_Equal_Sint64_int64.sk4 slices_Equal_Sint64_int64.xs4 (fun {R} => slices_Equal_Sint64_int64.l4 (R := R) N)) := loop_ok (g := slices_Equal_Sint64_int64.cfg N) tys_ok (slices_Equal_Sint64_int64.cons N) mixed (slices_Equal_Sint64_int64.i4 N) (fun d kn kx => slices_Equal_Sint64_int64.h4 N d kn kx)
theorem slices_Equal_Sint64_int64.ls (N : Nat) : LoopsOk Try.prog (slices_Equal_Sint64_int64.cfg N) (fnBody Try.f68) := loopsL (l := [nthLoop (fnBody Try.f68) 0]) (by kernel_rfl) ⟨loopOne (L0 := loopCon N slices_Equal_Sint64_int64.sk4 slices_Equal_Sint64_int64.xs4 (fun {R} => slices_Equal_Sint64_int64.l4 (R := R) N)) (id := 4) (by kernel_rfl) (by kernel_rfl) (slices_Equal_Sint64_int64.o4 N), trivial⟩
theorem slices_Equal_Sint64_int64.q4 {R R' : Type} {N n : Nat} {d} {k} {g : R → Option R'} : bindF (loopP (slices_Equal_Sint64_int64.l4 N) n d k) g = loopP (slices_Equal_Sint64_int64.l4 N) n d fun e => bindF (k e) g := bindF_loopP (fun d kn kx => by simp only [slices_Equal_Sint64_int64.l4, bindF_ifB, bindF_bindO, bindF_pure, bindF_none, bindF_onSum]) n d k
theorem slices_Equal_Sint64_int64.b (N : Nat) (x0 : den (.sl 2 (.int .i64))) (x1 : den (.sl 2 (.int .i64))) : body (slices_Equal_Sint64_int64.cfg N) N Try.f68 [.one, .one] [.v, .v] [(false, .imm)] [⟨(.sl 2 (.int .i64)), .imm, x0⟩, ⟨(.sl 2 (.int .i64)), .imm, x1⟩] (fun r i => some (r, i)) = bindO (slices_Equal_Sint64_int64 N x0 x1) fun r => some ([⟨.bool, .imm, r⟩], []) := by
  show _ = bindF _ _
  conv => rhs; simp only [slices_Equal_Sint64_int64, bindF_ifB, bindF_bindO, bindF_pure, bindF_none, bindF_onSum, slices_Equal_Sint64_int64.q4]
  kernel_rfl
theorem slices_Equal_Sint64_int64.ok (N : Nat) : ConOk Try.prog 68 [.one, .one] (slices_Equal_Sint64_int64.con N) := by
  refine conOk_mk (g := slices_Equal_Sint64_int64.cfg N) (N := N) (res := [(false, .imm)]) tys_ok (slices_Equal_Sint64_int64.cons N) mixed Try.func68 (slices_Equal_Sint64_int64.ls N) rfl rfl ?_
  intro ds R k y h
  cases ds with
  | nil => exact none_some h
  | cons d0 ds =>
  cases ds with
  | nil => exact none_some h
  | cons d1 ds =>
  cases ds with
  | cons _ _ => exact none_some h
  | nil =>
  have h0 : (castDm (.sl 2 (.int .i64)) .imm d0 fun x0 => castDm (.sl 2 (.int .i64)) .imm d1 fun x1 => bindO (slices_Equal_Sint64_int64 N x0 x1) fun r => k [⟨.bool, .imm, r⟩] []) = some y := h
  clear h
  obtain ⟨x0, rfl, h1⟩ := castDm_eq h0
  obtain ⟨x1, rfl, h2⟩ := castDm_eq h1
  exact con_fin (slices_Equal_Sint64_int64.b N x0 x1) h2
theorem slices_Equal_Sint64_int64.det (N : Nat) : ConDet (slices_Equal_Sint64_int64.con N) := by
  intro ds R k y h
  cases ds with
  | nil => exact none_some h
  | cons d0 ds =>
  cases ds with
  | nil => exact none_some h
  | cons d1 ds =>
  cases ds with
  | cons _ _ => exact none_some h
  | nil =>
  have h0 : (castDm (.sl 2 (.int .i64)) .imm d0 fun x0 => castDm (.sl 2 (.int .i64)) .imm d1 fun x1 => bindO (slices_Equal_Sint64_int64 N x0 x1) fun r => k [⟨.bool, .imm, r⟩] []) = some y := h
  clear h
  obtain ⟨x0, rfl, h1⟩ := castDm_eq h0
  obtain ⟨x1, rfl, h2⟩ := castDm_eq h1
  obtain ⟨r, e, h⟩ := bindO_some h2
  refine ⟨_, _, h, fun k' => ?_⟩
  show (castDm (.sl 2 (.int .i64)) .imm (⟨(.sl 2 (.int .i64)), .imm, x0⟩ : Dy) fun x0 => castDm (.sl 2 (.int .i64)) .imm (⟨(.sl 2 (.int .i64)), .imm, x1⟩ : Dy) fun x1 => bindO (slices_Equal_Sint64_int64 N x0 x1) fun r => k' [⟨.bool, .imm, r⟩] []) = _
  simp only [castDm_self]
  rw [e]
  rfl
noncomputable def impl_begins.con (N : Nat) : Con := { modes := [.v, .v], ptrs := [false], fn := fun ds k => match ds with | [d0, d1] => castDm (.sl 2 (.int .i64)) .imm d0 fun x0 => castDm (.sl 2 (.int .i64)) .imm d1 fun x1 => bindO (impl_begins N x0 x1) fun r => k [⟨.bool, .imm, r⟩] [] | _ => none }
noncomputable def impl_begins.cfg (N : Nat) : Cfg := { ty := tys, keep := [16], flt := [], elm := [(22, (.own .imm)), (23, (.own .imm)), (24, (.pr (.own .imm) .imm)), (25, (.pr (.own .imm) .imm)), (26, (.own (.own .imm))), (29, (.pr (.pr (.own .imm) .imm) (.pr (.own .imm) .imm))), (30, (.pr (.pr (.own .imm) .imm) (.pr (.own .imm) .imm))), (54, (.pr (.own .imm) .imm)), (55, (.pr (.own .imm) .imm)), (61, (.own .imm))], live := [], ord := [], con := [((68, [.one, .one]), slices_Equal_Sint64_int64.con N)], loops := [], joins := [] }
theorem impl_begins.cons (N : Nat) : ConsOk Try.prog (impl_begins.cfg N).con := (consOk_cons (hb68) (slices_Equal_Sint64_int64.ok N) (slices_Equal_Sint64_int64.det N) consOk_nil)
theorem impl_begins.ls (N : Nat) : LoopsOk Try.prog (impl_begins.cfg N) (fnBody Try.f55) := loopsL (l := []) (by kernel_rfl) trivial
theorem impl_begins.b (N : Nat) (x0 : den (.sl 2 (.int .i64))) (x1 : den (.sl 2 (.int .i64))) : body (impl_begins.cfg N) N Try.f55 [.one, .one] [.v, .v] [(false, .imm)] [⟨(.sl 2 (.int .i64)), .imm, x0⟩, ⟨(.sl 2 (.int .i64)), .imm, x1⟩] (fun r i => some (r, i)) = bindO (impl_begins N x0 x1) fun r => some ([⟨.bool, .imm, r⟩], []) := by
  show _ = bindF _ _
  conv => rhs; simp only [impl_begins, bindF_ifB, bindF_bindO, bindF_pure, bindF_none, bindF_onSum]
  kernel_rfl
theorem impl_begins.ok (N : Nat) : ConOk Try.prog 55 [.one, .one] (impl_begins.con N) := by
  refine conOk_mk (g := impl_begins.cfg N) (N := N) (res := [(false, .imm)]) tys_ok (impl_begins.cons N) mixed Try.func55 (impl_begins.ls N) rfl rfl ?_
  intro ds R k y h
  cases ds with
  | nil => exact none_some h
  | cons d0 ds =>
  cases ds with
  | nil => exact none_some h
  | cons d1 ds =>
  cases ds with
  | cons _ _ => exact none_some h
  | nil =>
  have h0 : (castDm (.sl 2 (.int .i64)) .imm d0 fun x0 => castDm (.sl 2 (.int .i64)) .imm d1 fun x1 => bindO (impl_begins N x0 x1) fun r => k [⟨.bool, .imm, r⟩] []) = some y := h
  clear h
  obtain ⟨x0, rfl, h1⟩ := castDm_eq h0
  obtain ⟨x1, rfl, h2⟩ := castDm_eq h1
  exact con_fin (impl_begins.b N x0 x1) h2
theorem impl_begins.det (N : Nat) : ConDet (impl_begins.con N) := by
  intro ds R k y h
  cases ds with
  | nil => exact none_some h
  | cons d0 ds =>
  cases ds with
  | nil => exact none_some h
  | cons d1 ds =>
  cases ds with
  | cons _ _ => exact none_some h
  | nil =>
  have h0 : (castDm (.sl 2 (.int .i64)) .imm d0 fun x0 => castDm (.sl 2 (.int .i64)) .imm d1 fun x1 => bindO (impl_begins N x0 x1) fun r => k [⟨.bool, .imm, r⟩] []) = some y := h
  clear h
  obtain ⟨x0, rfl, h1⟩ := castDm_eq h0
  obtain ⟨x1, rfl, h2⟩ := castDm_eq h1
  obtain ⟨r, e, h⟩ := bindO_some h2
  refine ⟨_, _, h, fun k' => ?_⟩
  show (castDm (.sl 2 (.int .i64)) .imm (⟨(.sl 2 (.int .i64)), .imm, x0⟩ : Dy) fun x0 => castDm (.sl 2 (.int .i64)) .imm (⟨(.sl 2 (.int .i64)), .imm, x1⟩ : Dy) fun x1 => bindO (impl_begins N x0 x1) fun r => k' [⟨.bool, .imm, r⟩] []) = _
  simp only [castDm_self]
  rw [e]
  rfl
def impl_matches.sk3 : Skel := ⟨[.dead, .pv (.sl 2 (.int .i64)), .dead, .dead, .dead, .dead, .ov 50 [], .ov 51 [], .dead, .dead, .dead, .dead, .pv (.sl 23 (.sl 2 (.int .i64))), .pv (.int .i64), .pv (.int .i64), .dead, .dead, .dead, .dead, .dead, .dead, .dead, .dead, .dead, .dead, .dead, .dead, .dead, .dead, .dead, .dead, .dead, .dead], [⟨50, (.sl 23 (.sl 2 (.int .i64))), (.own .imm), false, false⟩, ⟨51, (.sl 2 (.int .i64)), (.own .imm), false, false⟩]⟩
def impl_matches.xs3 : List XS := [⟨.exit 0, [6, 7], ⟨[.dead, .dead, .dead, .dead, .dead, .dead, .ov 50 [], .ov 51 [], .dead, .dead, .dead, .dead, .dead, .dead, .dead, .dead, .dead, .dead, .dead, .dead, .dead, .dead, .dead, .dead, .dead, .dead, .dead, .dead, .dead, .dead, .dead, .dead, .dead], [⟨50, (.sl 23 (.sl 2 (.int .i64))), (.own .imm), false, false⟩, ⟨51, (.sl 2 (.int .i64)), (.own .imm), false, false⟩]⟩⟩]
noncomputable def impl_matches.con (N : Nat) : Con := { modes := [.v, .v], ptrs := [false, false], fn := fun ds k => match ds with | [d0, d1] => castDm (.sl 23 (.sl 2 (.int .i64))) .imm d0 fun x0 => castDm (.sl 2 (.int .i64)) .imm d1 fun x1 => bindO (impl_matches N x0 x1) fun r => k [⟨(.sl 23 (.sl 2 (.int .i64))), (.own .imm), r.1⟩, ⟨(.sl 2 (.int .i64)), (.own .imm), r.2⟩] [] | _ => none }
noncomputable def impl_matches.cfg (N : Nat) : Cfg := { ty := tys, keep := [21], flt := [], elm := [], live := [(3, [1, 6, 7, 12, 13, 14])], ord := [], con := [((55, [.one, .one]), impl_begins.con N)], loops := [(3, loopCon N impl_matches.sk3 impl_matches.xs3 (fun {R} => impl_matches.l3 (R := R) N))], joins := [(8, [⟨.normal, [1, 6, 7, 12, 13, 14], ⟨[.dead, .pv (.sl 2 (.int .i64)), .dead, .dead, .dead, .dead, .ov 50 [], .ov 51 [], .dead, .dead, .dead, .dead, .pv (.sl 23 (.sl 2 (.int .i64))), .pv (.int .i64), .pv (.int .i64), .dead, .dead, .dead, .dead, .dead, .dead, .dead, .dead, .dead, .dead, .dead, .dead, .dead, .dead, .dead, .dead, .dead, .dead], [⟨50, (.sl 23 (.sl 2 (.int .i64))), (.own .imm), false, false⟩, ⟨51, (.sl 2 (.int .i64)), (.own .imm), false, false⟩]⟩⟩])] }
theorem impl_matches.cons (N : Nat) : ConsOk Try.prog (impl_matches.cfg N).con := (consOk_cons (hb55) (impl_begins.ok N) (impl_begins.det N) consOk_nil)
theorem impl_matches.h3 {R : Type} (N : Nat) (d : impl_matches.sk3.D) (kn : impl_matches.sk3.D → Option R) (kx : XD impl_matches.xs3 → Option R) : roundK (impl_matches.cfg N) N (nthLoop (fnBody Try.f29) 0) impl_matches.sk3 impl_matches.xs3 d kn kx = impl_matches.l3 N d kn kx := by kernel_rfl
theorem impl_matches.i3 (N : Nat) : LoopsOk Try.prog (impl_matches.cfg N) (nthLoop (fnBody Try.f29) 0) := loopsL (l := []) (by kernel_rfl) trivial
theorem impl_matches.o3 (N : Nat) : LoopOk Try.prog (nthLoop (fnBody Try.f29) 0) (loopCon N impl_matches.sk3 impl_matches.xs3 (fun {R} => impl_matches.l3 (R := R) N)) := loop_ok (g := impl_matches.cfg N) tys_ok (impl_matches.cons N) mixed (impl_matches.i3 N) (fun d kn kx => impl_matches.h3 N d kn kx)
theorem impl_matches.ls (N : Nat) : LoopsOk Try.prog (impl_matches.cfg N) (fnBody Try.f29) := loopsL (l := [nthLoop (fnBody Try.f29) 0]) (by kernel_rfl) ⟨loopOne (L0 := loopCon N impl_matches.sk3 impl_matches.xs3 (fun {R} => impl_matches.l3 (R := R) N)) (id := 3) (by kernel_rfl) (by kernel_rfl) (impl_matches.o3 N), trivial⟩
theorem impl_matches.q3 {R R' : Type} {N n : Nat} {d} {k} {g : R → Option R'} : bindF (loopP (impl_matches.l3 N) n d k) g = loopP (impl_matches.l3 N) n d fun e => bindF (k e) g := bindF_loopP (fun d kn kx => by simp only [impl_matches.l3, bindF_ifB, bindF_bindO, bindF_pure, bindF_none, bindF_onSum]) n d k
theorem impl_matches.b (N : Nat) (x0 : den (.sl 23 (.sl 2 (.int .i64)))) (x1 : den (.sl 2 (.int .i64))) : body (impl_matches.cfg N) N Try.f29 [.one, .one] [.v, .v] [(false, (.own .imm)), (false, (.own .imm))] [⟨(.sl 23 (.sl 2 (.int .i64))), .imm, x0⟩, ⟨(.sl 2 (.int .i64)), .imm, x1⟩] (fun r i => some (r, i)) = bindO (impl_matches N x0 x1) fun r => some ([⟨(.sl 23 (.sl 2 (.int .i64))), (.own .imm), r.1⟩, ⟨(.sl 2 (.int .i64)), (.own .imm), r.2⟩], []) := by
  show _ = bindF _ _
  conv => rhs; simp only [impl_matches, bindF_ifB, bindF_bindO, bindF_pure, bindF_none, bindF_onSum, impl_matches.q3]
  kernel_rfl
theorem impl_matches.ok (N : Nat) : ConOk Try.prog 29 [.one, .one] (impl_matches.con N) := by
  refine conOk_mk (g := impl_matches.cfg N) (N := N) (res := [(false, (.own .imm)), (false, (.own .imm))]) tys_ok (impl_matches.cons N) mixed Try.func29 (impl_matches.ls N) rfl rfl ?_
  intro ds R k y h
  cases ds with
  | nil => exact none_some h
  | cons d0 ds =>
  cases ds with
  | nil => exact none_some h
  | cons d1 ds =>
  cases ds with
  | cons _ _ => exact none_some h
  | nil =>
  have h0 : (castDm (.sl 23 (.sl 2 (.int .i64))) .imm d0 fun x0 => castDm (.sl 2 (.int .i64)) .imm d1 fun x1 => bindO (impl_matches N x0 x1) fun r => k [⟨(.sl 23 (.sl 2 (.int .i64))), (.own .imm), r.1⟩, ⟨(.sl 2 (.int .i64)), (.own .imm), r.2⟩] []) = some y := h
  clear h
  obtain ⟨x0, rfl, h1⟩ := castDm_eq h0
  obtain ⟨x1, rfl, h2⟩ := castDm_eq h1
  exact con_fin (impl_matches.b N x0 x1) h2
theorem impl_matches.det (N : Nat) : ConDet (impl_matches.con N) := by
  intro ds R k y h
  cases ds with
  | nil => exact none_some h
  | cons d0 ds =>
  cases ds with
  | nil => exact none_some h
  | cons d1 ds =>
  cases ds with
  | cons _ _ => exact none_some h
  | nil =>
  have h0 : (castDm (.sl 23 (.sl 2 (.int .i64))) .imm d0 fun x0 => castDm (.sl 2 (.int .i64)) .imm d1 fun x1 => bindO (impl_matches N x0 x1) fun r => k [⟨(.sl 23 (.sl 2 (.int .i64))), (.own .imm), r.1⟩, ⟨(.sl 2 (.int .i64)), (.own .imm), r.2⟩] []) = some y := h
  clear h
  obtain ⟨x0, rfl, h1⟩ := castDm_eq h0
  obtain ⟨x1, rfl, h2⟩ := castDm_eq h1
  obtain ⟨r, e, h⟩ := bindO_some h2
  refine ⟨_, _, h, fun k' => ?_⟩
  show (castDm (.sl 23 (.sl 2 (.int .i64))) .imm (⟨(.sl 23 (.sl 2 (.int .i64))), .imm, x0⟩ : Dy) fun x0 => castDm (.sl 2 (.int .i64)) .imm (⟨(.sl 2 (.int .i64)), .imm, x1⟩ : Dy) fun x1 => bindO (impl_matches N x0 x1) fun r => k' [⟨(.sl 23 (.sl 2 (.int .i64))), (.own .imm), r.1⟩, ⟨(.sl 2 (.int .i64)), (.own .imm), r.2⟩] []) = _
  simp only [castDm_self]
  rw [e]
  rfl
noncomputable def impl_common_c1.con (N : Nat) : Con := { modes := [.v, .rd, .rd], ptrs := [false], fn := fun ds k => match ds with | [d0, d1, d2] => castDm (.sl 2 (.int .i64)) .imm d0 fun x0 => castDm (.sl 23 (.sl 2 (.int .i64))) .imm d1 fun x1 => castDm (.int .i64) .imm d2 fun x2 => bindO (impl_common_c1 N x0 x1 x2) fun r => k [⟨.bool, .imm, r⟩] [] | _ => none }
noncomputable def impl_common_c1.cfg (N : Nat) : Cfg := { ty := tys, keep := [11], flt := [], elm := [(22, (.own .imm)), (23, (.own .imm)), (24, (.pr (.own .imm) .imm)), (25, (.pr (.own .imm) .imm)), (26, (.own (.own .imm))), (29, (.pr (.pr (.own .imm) .imm) (.pr (.own .imm) .imm))), (30, (.pr (.pr (.own .imm) .imm) (.pr (.own .imm) .imm))), (54, (.pr (.own .imm) .imm)), (55, (.pr (.own .imm) .imm)), (61, (.own .imm))], live := [], ord := [(1, [0, 1, 2, 3, 4, 5, 6, 7, 8])], con := [((55, [.one, .one]), impl_begins.con N)], loops := [], joins := [] }
theorem impl_common_c1.cons (N : Nat) : ConsOk Try.prog (impl_common_c1.cfg N).con := (consOk_cons (hb55) (impl_begins.ok N) (impl_begins.det N) consOk_nil)
theorem impl_common_c1.ls (N : Nat) : LoopsOk Try.prog (impl_common_c1.cfg N) (fnBody Try.f56) := loopsL (l := []) (by kernel_rfl) trivial
theorem impl_common_c1.b (N : Nat) (x0 : den (.sl 2 (.int .i64))) (x1 : den (.sl 23 (.sl 2 (.int .i64)))) (x2 : den (.int .i64)) : body (impl_common_c1.cfg N) N Try.f56 [.one] [.v, .rd, .rd] [(false, .imm)] [⟨(.sl 2 (.int .i64)), .imm, x0⟩, ⟨(.sl 23 (.sl 2 (.int .i64))), .imm, x1⟩, ⟨(.int .i64), .imm, x2⟩] (fun r i => some (r, i)) = bindO (impl_common_c1 N x0 x1 x2) fun r => some ([⟨.bool, .imm, r⟩], []) := by
  show _ = bindF _ _
  conv => rhs; simp only [impl_common_c1, bindF_ifB, bindF_bindO, bindF_pure, bindF_none, bindF_onSum]
  kernel_rfl
theorem impl_common_c1.ok (N : Nat) : ConOk Try.prog 56 [.one] (impl_common_c1.con N) := by
  refine conOk_mk (g := impl_common_c1.cfg N) (N := N) (res := [(false, .imm)]) tys_ok (impl_common_c1.cons N) mixed Try.func56 (impl_common_c1.ls N) rfl rfl ?_
  intro ds R k y h
  cases ds with
  | nil => exact none_some h
  | cons d0 ds =>
  cases ds with
  | nil => exact none_some h
  | cons d1 ds =>
  cases ds with
  | nil => exact none_some h
  | cons d2 ds =>
  cases ds with
  | cons _ _ => exact none_some h
  | nil =>
  have h0 : (castDm (.sl 2 (.int .i64)) .imm d0 fun x0 => castDm (.sl 23 (.sl 2 (.int .i64))) .imm d1 fun x1 => castDm (.int .i64) .imm d2 fun x2 => bindO (impl_common_c1 N x0 x1 x2) fun r => k [⟨.bool, .imm, r⟩] []) = some y := h
  clear h
  obtain ⟨x0, rfl, h1⟩ := castDm_eq h0
  obtain ⟨x1, rfl, h2⟩ := castDm_eq h1
  obtain ⟨x2, rfl, h3⟩ := castDm_eq h2
  exact con_fin (impl_common_c1.b N x0 x1 x2) h3
theorem impl_common_c1.det (N : Nat) : ConDet (impl_common_c1.con N) := by
  intro ds R k y h
  cases ds with
  | nil => exact none_some h
  | cons d0 ds =>
  cases ds with
  | nil => exact none_some h
  | cons d1 ds =>
  cases ds with
  | nil => exact none_some h
  | cons d2 ds =>
  cases ds with
  | cons _ _ => exact none_some h
  | nil =>
  have h0 : (castDm (.sl 2 (.int .i64)) .imm d0 fun x0 => castDm (.sl 23 (.sl 2 (.int .i64))) .imm d1 fun x1 => castDm (.int .i64) .imm d2 fun x2 => bindO (impl_common_c1 N x0 x1 x2) fun r => k [⟨.bool, .imm, r⟩] []) = some y := h
  clear h
  obtain ⟨x0, rfl, h1⟩ := castDm_eq h0
  obtain ⟨x1, rfl, h2⟩ := castDm_eq h1
  obtain ⟨x2, rfl, h3⟩ := castDm_eq h2
  obtain ⟨r, e, h⟩ := bindO_some h3
  refine ⟨_, _, h, fun k' => ?_⟩
  show (castDm (.sl 2 (.int .i64)) .imm (⟨(.sl 2 (.int .i64)), .imm, x0⟩ : Dy) fun x0 => castDm (.sl 23 (.sl 2 (.int .i64))) .imm (⟨(.sl 23 (.sl 2 (.int .i64))), .imm, x1⟩ : Dy) fun x1 => castDm (.int .i64) .imm (⟨(.int .i64), .imm, x2⟩ : Dy) fun x2 => bindO (impl_common_c1 N x0 x1 x2) fun r => k' [⟨.bool, .imm, r⟩] []) = _
  simp only [castDm_self]
  rw [e]
  rfl
def slices_IndexFunc_S_Sint64__Sint64__impl_common_c1.sk2 : Skel := ⟨[.pv (.sl 23 (.sl 2 (.int .i64))), .fn 56 [.cr (.sl 23 (.sl 2 (.int .i64))), .cr (.int .i64)], .dead, .dead, .dead, .dead, .dead, .pv (.int .i64), .pv (.int .i64), .dead, .dead, .dead, .dead, .dead, .dead, .dead, .dead, .dead, .dead], []⟩
def slices_IndexFunc_S_Sint64__Sint64__impl_common_c1.xs2 : List XS := [⟨.exit 0, [], ⟨[.dead, .dead, .dead, .dead, .dead, .dead, .dead, .dead, .dead, .dead, .dead, .dead, .dead, .dead, .dead, .dead, .dead, .dead, .dead], []⟩⟩, ⟨.ret, [4], ⟨[.dead, .dead, .dead, .dead, .pv (.int .i64), .dead, .dead, .dead, .dead, .dead, .dead, .dead, .dead, .dead, .dead, .dead, .dead, .dead, .dead], []⟩⟩]
noncomputable def slices_IndexFunc_S_Sint64__Sint64__impl_common_c1.con (N : Nat) : Con := { modes := [.v, .rd, .rd], ptrs := [false], fn := fun ds k => match ds with | [d0, d1, d2] => castDm (.sl 23 (.sl 2 (.int .i64))) .imm d0 fun x0 => castDm (.sl 23 (.sl 2 (.int .i64))) .imm d1 fun x1 => castDm (.int .i64) .imm d2 fun x2 => bindO (slices_IndexFunc_S_Sint64__Sint64__impl_common_c1 N x0 x1 x2) fun r => k [⟨(.int .i64), .imm, r⟩] [] | _ => none }
noncomputable def slices_IndexFunc_S_Sint64__Sint64__impl_common_c1.cfg (N : Nat) : Cfg := { ty := tys, keep := [16], flt := [], elm := [(22, (.own .imm)), (23, (.own .imm)), (24, (.pr (.own .imm) .imm)), (25, (.pr (.own .imm) .imm)), (26, (.own (.own .imm))), (29, (.pr (.pr (.own .imm) .imm) (.pr (.own .imm) .imm))), (30, (.pr (.pr (.own .imm) .imm) (.pr (.own .imm) .imm))), (54, (.pr (.own .imm) .imm)), (55, (.pr (.own .imm) .imm)), (61, (.own .imm))], live := [(2, [0, 1, 7, 8])], ord := [], con := [((56, [.one]), impl_common_c1.con N)], loops := [(2, loopCon N slices_IndexFunc_S_Sint64__Sint64__impl_common_c1.sk2 slices_IndexFunc_S_Sint64__Sint64__impl_common_c1.xs2 (fun {R} => slices_IndexFunc_S_Sint64__Sint64__impl_common_c1.l2 (R := R) N))], joins := [] }
theorem slices_IndexFunc_S_Sint64__Sint64__impl_common_c1.cons (N : Nat) : ConsOk Try.prog (slices_IndexFunc_S_Sint64__Sint64__impl_common_c1.cfg N).con := (consOk_cons (hb56) (impl_common_c1.ok N) (impl_common_c1.det N) consOk_nil)
theorem slices_IndexFunc_S_Sint64__Sint64__impl_common_c1.h2 {R : Type} (N : Nat) (d : slices_IndexFunc_S_Sint64__Sint64__impl_common_c1.sk2.D) (kn : slices_IndexFunc_S_Sint64__Sint64__impl_common_c1.sk2.D → Option R) (kx : XD slices_IndexFunc_S_Sint64__Sint64__impl_common_c1.xs2 → Option R) : roundK (slices_IndexFunc_S_Sint64__Sint64__impl_common_c1.cfg N) N (nthLoop (fnBody Try.f66) 0) slices_IndexFunc_S_Sint64__Sint64__impl_common_c1.sk2 slices_IndexFunc_S_Sint64__Sint64__impl_common_c1.xs2 d kn kx = slices_IndexFunc_S_Sint64__Sint64__impl_common_c1.l2 N d kn kx := by kernel_rfl
theorem slices_IndexFunc_S_Sint64__Sint64__impl_common_c1.i2 (N : Nat) : LoopsOk Try.prog (slices_IndexFunc_S_Sint64__Sint64__impl_common_c1.cfg N) (nthLoop (fnBody Try.f66) 0) := loopsL (l := []) (by kernel_rfl) trivial
theorem slices_IndexFunc_S_Sint64__Sint64__impl_common_c1.o2 (N : Nat) : LoopOk Try.prog (nthLoop (fnBody Try.f66) 0) (loopCon N slices_IndexFunc_S_Sint64__Sint64__impl_common_c1.sk2 slices_IndexFunc_S_Sint64__Sint64__impl_common_c1.xs2 (fun {R} => slices_IndexFunc_S_Sint64__Sint64__impl_common_c1.l2 (R := R) N)) := loop_ok (g := slices_IndexFunc_S_Sint64__Sint64__impl_common_c1.cfg N) tys_ok (slices_IndexFunc_S_Sint64__Sint64__impl_common_c1.cons N) mixed (slices_IndexFunc_S_Sint64__Sint64__impl_common_c1.i2 N) (fun d kn kx => slices_IndexFunc_S_Sint64__Sint64__impl_common_c1.h2 N d kn kx)
theorem slices_IndexFunc_S_Sint64__Sint64__impl_common_c1.ls (N : Nat) : LoopsOk Try.prog (slices_IndexFunc_S_Sint64__Sint64__impl_common_c1.cfg N) (fnBody Try.f66) := loopsL (l := [nthLoop (fnBody Try.f66) 0]) (by kernel_rfl) ⟨loopOne (L0 := loopCon N slices_IndexFunc_S_Sint64__Sint64__impl_common_c1.sk2 slices_IndexFunc_S_Sint64__Sint64__impl_common_c1.xs2 (fun {R} => slices_IndexFunc_S_Sint64__Sint64__impl_common_c1.l2 (R := R) N)) (id := 2) (by kernel_rfl) (by kernel_rfl) (slices_IndexFunc_S_Sint64__Sint64__impl_common_c1.o2 N), trivial⟩
theorem slices_IndexFunc_S_Sint64__Sint64__impl_common_c1.q2 {R R' : Type} {N n : Nat} {d} {k} {g : R → Option R'} : bindF (loopP (slices_IndexFunc_S_Sint64__Sint64__impl_common_c1.l2 N) n d k) g = loopP (slices_IndexFunc_S_Sint64__Sint64__impl_common_c1.l2 N) n d fun e => bindF (k e) g := bindF_loopP (fun d kn kx => by simp only [slices_IndexFunc_S_Sint64__Sint64__impl_common_c1.l2, bindF_ifB, bindF_bindO, bindF_pure, bindF_none, bindF_onSum]) n d k
theorem slices_IndexFunc_S_Sint64__Sint64__impl_common_c1.b (N : Nat) (x0 : den (.sl 23 (.sl 2 (.int .i64)))) (x1 : den (.sl 23 (.sl 2 (.int .i64)))) (x2 : den (.int .i64)) : body (slices_IndexFunc_S_Sint64__Sint64__impl_common_c1.cfg N) N Try.f66 [.one, .fn 56 2] [.v, .rd, .rd] [(false, .imm)] [⟨(.sl 23 (.sl 2 (.int .i64))), .imm, x0⟩, ⟨(.sl 23 (.sl 2 (.int .i64))), .imm, x1⟩, ⟨(.int .i64), .imm, x2⟩] (fun r i => some (r, i)) = bindO (slices_IndexFunc_S_Sint64__Sint64__impl_common_c1 N x0 x1 x2) fun r => some ([⟨(.int .i64), .imm, r⟩], []) := by
  show _ = bindF _ _
  conv => rhs; simp only [slices_IndexFunc_S_Sint64__Sint64__impl_common_c1, bindF_ifB, bindF_bindO, bindF_pure, bindF_none, bindF_onSum, slices_IndexFunc_S_Sint64__Sint64__impl_common_c1.q2]
  kernel_rfl
theorem slices_IndexFunc_S_Sint64__Sint64__impl_common_c1.ok (N : Nat) : ConOk Try.prog 66 [.one, .fn 56 2] (slices_IndexFunc_S_Sint64__Sint64__impl_common_c1.con N) := by
  refine conOk_mk (g := slices_IndexFunc_S_Sint64__Sint64__impl_common_c1.cfg N) (N := N) (res := [(false, .imm)]) tys_ok (slices_IndexFunc_S_Sint64__Sint64__impl_common_c1.cons N) mixed Try.func66 (slices_IndexFunc_S_Sint64__Sint64__impl_common_c1.ls N) rfl rfl ?_
  intro ds R k y h
  cases ds with
  | nil => exact none_some h
  | cons d0 ds =>
  cases ds with
  | nil => exact none_some h
  | cons d1 ds =>
  cases ds with
  | nil => exact none_some h
  | cons d2 ds =>
  cases ds with
  | cons _ _ => exact none_some h
  | nil =>
  have h0 : (castDm (.sl 23 (.sl 2 (.int .i64))) .imm d0 fun x0 => castDm (.sl 23 (.sl 2 (.int .i64))) .imm d1 fun x1 => castDm (.int .i64) .imm d2 fun x2 => bindO (slices_IndexFunc_S_Sint64__Sint64__impl_common_c1 N x0 x1 x2) fun r => k [⟨(.int .i64), .imm, r⟩] []) = some y := h
  clear h
  obtain ⟨x0, rfl, h1⟩ := castDm_eq h0
  obtain ⟨x1, rfl, h2⟩ := castDm_eq h1
  obtain ⟨x2, rfl, h3⟩ := castDm_eq h2
  exact con_fin (slices_IndexFunc_S_Sint64__Sint64__impl_common_c1.b N x0 x1 x2) h3
theorem slices_IndexFunc_S_Sint64__Sint64__impl_common_c1.det (N : Nat) : ConDet (slices_IndexFunc_S_Sint64__Sint64__impl_common_c1.con N) := by
  intro ds R k y h
  cases ds with
  | nil => exact none_some h
  | cons d0 ds =>
  cases ds with
  | nil => exact none_some h
  | cons d1 ds =>
  cases ds with
  | nil => exact none_some h
  | cons d2 ds =>
  cases ds with
  | cons _ _ => exact none_some h
  | nil =>
  have h0 : (castDm (.sl 23 (.sl 2 (.int .i64))) .imm d0 fun x0 => castDm (.sl 23 (.sl 2 (.int .i64))) .imm d1 fun x1 => castDm (.int .i64) .imm d2 fun x2 => bindO (slices_IndexFunc_S_Sint64__Sint64__impl_common_c1 N x0 x1 x2) fun r => k [⟨(.int .i64), .imm, r⟩] []) = some y := h
  clear h
  obtain ⟨x0, rfl, h1⟩ := castDm_eq h0
  obtain ⟨x1, rfl, h2⟩ := castDm_eq h1
  obtain ⟨x2, rfl, h3⟩ := castDm_eq h2
  obtain ⟨r, e, h⟩ := bindO_some h3
  refine ⟨_, _, h, fun k' => ?_⟩
  show (castDm (.sl 23 (.sl 2 (.int .i64))) .imm (⟨(.sl 23 (.sl 2 (.int .i64))), .imm, x0⟩ : Dy) fun x0 => castDm (.sl 23 (.sl 2 (.int .i64))) .imm (⟨(.sl 23 (.sl 2 (.int .i64))), .imm, x1⟩ : Dy) fun x1 => castDm (.int .i64) .imm (⟨(.int .i64), .imm, x2⟩ : Dy) fun x2 => bindO (slices_IndexFunc_S_Sint64__Sint64__impl_common_c1 N x0 x1 x2) fun r => k' [⟨(.int .i64), .imm, r⟩] []) = _
  simp only [castDm_self]
  rw [e]
  rfl
noncomputable def slices_ContainsFunc_S_Sint64__Sint64__impl_common_c1.con (N : Nat) : Con := { modes := [.v, .rd, .rd], ptrs := [false], fn := fun ds k => match ds with | [d0, d1, d2] => castDm (.sl 23 (.sl 2 (.int .i64))) .imm d0 fun x0 => castDm (.sl 23 (.sl 2 (.int .i64))) .imm d1 fun x1 => castDm (.int .i64) .imm d2 fun x2 => bindO (slices_ContainsFunc_S_Sint64__Sint64__impl_common_c1 N x0 x1 x2) fun r => k [⟨.bool, .imm, r⟩] [] | _ => none }
noncomputable def slices_ContainsFunc_S_Sint64__Sint64__impl_common_c1.cfg (N : Nat) : Cfg := { ty := tys, keep := [7], flt := [], elm := [(22, (.own .imm)), (23, (.own .imm)), (24, (.pr (.own .imm) .imm)), (25, (.pr (.own .imm) .imm)), (26, (.own (.own .imm))), (29, (.pr (.pr (.own .imm) .imm) (.pr (.own .imm) .imm))), (30, (.pr (.pr (.own .imm) .imm) (.pr (.own .imm) .imm))), (54, (.pr (.own .imm) .imm)), (55, (.pr (.own .imm) .imm)), (61, (.own .imm))], live := [], ord := [], con := [((66, [.one, .fn 56 2]), slices_IndexFunc_S_Sint64__Sint64__impl_common_c1.con N)], loops := [], joins := [] }
theorem slices_ContainsFunc_S_Sint64__Sint64__impl_common_c1.cons (N : Nat) : ConsOk Try.prog (slices_ContainsFunc_S_Sint64__Sint64__impl_common_c1.cfg N).con := (consOk_cons (hb66) (slices_IndexFunc_S_Sint64__Sint64__impl_common_c1.ok N) (slices_IndexFunc_S_Sint64__Sint64__impl_common_c1.det N) consOk_nil)
theorem slices_ContainsFunc_S_Sint64__Sint64__impl_common_c1.ls (N : Nat) : LoopsOk Try.prog (slices_ContainsFunc_S_Sint64__Sint64__impl_common_c1.cfg N) (fnBody Try.f47) := loopsL (l := []) (by kernel_rfl) trivial
theorem slices_ContainsFunc_S_Sint64__Sint64__impl_common_c1.b (N : Nat) (x0 : den (.sl 23 (.sl 2 (.int .i64)))) (x1 : den (.sl 23 (.sl 2 (.int .i64)))) (x2 : den (.int .i64)) : body (slices_ContainsFunc_S_Sint64__Sint64__impl_common_c1.cfg N) N Try.f47 [.one, .fn 56 2] [.v, .rd, .rd] [(false, .imm)] [⟨(.sl 23 (.sl 2 (.int .i64))), .imm, x0⟩, ⟨(.sl 23 (.sl 2 (.int .i64))), .imm, x1⟩, ⟨(.int .i64), .imm, x2⟩] (fun r i => some (r, i)) = bindO (slices_ContainsFunc_S_Sint64__Sint64__impl_common_c1 N x0 x1 x2) fun r => some ([⟨.bool, .imm, r⟩], []) := by
  show _ = bindF _ _
  conv => rhs; simp only [slices_ContainsFunc_S_Sint64__Sint64__impl_common_c1, bindF_ifB, bindF_bindO, bindF_pure, bindF_none, bindF_onSum]
  kernel_rfl
theorem slices_ContainsFunc_S_Sint64__Sint64__impl_common_c1.ok (N : Nat) : ConOk Try.prog 47 [.one, .fn 56 2] (slices_ContainsFunc_S_Sint64__Sint64__impl_common_c1.con N) := by
  refine conOk_mk (g := slices_ContainsFunc_S_Sint64__Sint64__impl_common_c1.cfg N) (N := N) (res := [(false, .imm)]) tys_ok (slices_ContainsFunc_S_Sint64__Sint64__impl_common_c1.cons N) mixed Try.func47 (slices_ContainsFunc_S_Sint64__Sint64__impl_common_c1.ls N) rfl rfl ?_
  intro ds R k y h
  cases ds with
  | nil => exact none_some h
  | cons d0 ds =>
  cases ds with
  | nil => exact none_some h
  | cons d1 ds =>
  cases ds with
  | nil => exact none_some h
  | cons d2 ds =>
  cases ds with
  | cons _ _ => exact none_some h
  | nil =>
  have h0 : (castDm (.sl 23 (.sl 2 (.int .i64))) .imm d0 fun x0 => castDm (.sl 23 (.sl 2 (.int .i64))) .imm d1 fun x1 => castDm (.int .i64) .imm d2 fun x2 => bindO (slices_ContainsFunc_S_Sint64__Sint64__impl_common_c1 N x0 x1 x2) fun r => k [⟨.bool, .imm, r⟩] []) = some y := h
  clear h
  obtain ⟨x0, rfl, h1⟩ := castDm_eq h0
  obtain ⟨x1, rfl, h2⟩ := castDm_eq h1
  obtain ⟨x2, rfl, h3⟩ := castDm_eq h2
  exact con_fin (slices_ContainsFunc_S_Sint64__Sint64__impl_common_c1.b N x0 x1 x2) h3
theorem slices_ContainsFunc_S_Sint64__Sint64__impl_common_c1.det (N : Nat) : ConDet (slices_ContainsFunc_S_Sint64__Sint64__impl_common_c1.con N) := by
  intro ds R k y h
  cases ds with
  | nil => exact none_some h
  | cons d0 ds =>
  cases ds with
  | nil => exact none_some h
  | cons d1 ds =>
  cases ds with
  | nil => exact none_some h
  | cons d2 ds =>
  cases ds with
  | cons _ _ => exact none_some h
  | nil =>
  have h0 : (castDm (.sl 23 (.sl 2 (.int .i64))) .imm d0 fun x0 => castDm (.sl 23 (.sl 2 (.int .i64))) .imm d1 fun x1 => castDm (.int .i64) .imm d2 fun x2 => bindO (slices_ContainsFunc_S_Sint64__Sint64__impl_common_c1 N x0 x1 x2) fun r => k [⟨.bool, .imm, r⟩] []) = some y := h
  clear h
  obtain ⟨x0, rfl, h1⟩ := castDm_eq h0
  obtain ⟨x1, rfl, h2⟩ := castDm_eq h1
  obtain ⟨x2, rfl, h3⟩ := castDm_eq h2
  obtain ⟨r, e, h⟩ := bindO_some h3
  refine ⟨_, _, h, fun k' => ?_⟩
  show (castDm (.sl 23 (.sl 2 (.int .i64))) .imm (⟨(.sl 23 (.sl 2 (.int .i64))), .imm, x0⟩ : Dy) fun x0 => castDm (.sl 23 (.sl 2 (.int .i64))) .imm (⟨(.sl 23 (.sl 2 (.int .i64))), .imm, x1⟩ : Dy) fun x1 => castDm (.int .i64) .imm (⟨(.int .i64), .imm, x2⟩ : Dy) fun x2 => bindO (slices_ContainsFunc_S_Sint64__Sint64__impl_common_c1 N x0 x1 x2) fun r => k' [⟨.bool, .imm, r⟩] []) = _
  simp only [castDm_self]
  rw [e]
  rfl
def impl_common.sk5 : Skel := ⟨[.dead, .dead, .dead, .dead, .dead, .ptr 50 [], .dead, .ptr 51 [], .dead, .dead, .dead, .dead, .dead, .dead, .dead, .dead, .dead, .dead, .dead, .dead, .dead, .dead, .dead, .dead, .dead, .dead, .dead, .dead, .dead, .dead, .dead, .dead], [⟨50, (.sl 23 (.sl 2 (.int .i64))), (.own .imm), true, false⟩, ⟨51, (.int .i64), .imm, true, false⟩]⟩
def impl_common.xs5 : List XS := [⟨.exit 0, [5, 7], ⟨[.dead, .dead, .dead, .dead, .dead, .ptr 50 [], .dead, .ptr 51 [], .dead, .dead, .dead, .dead, .dead, .dead, .dead, .dead, .dead, .dead, .dead, .dead, .dead, .dead, .dead, .dead, .dead, .dead, .dead, .dead, .dead, .dead, .dead, .dead], [⟨50, (.sl 23 (.sl 2 (.int .i64))), (.own .imm), true, false⟩, ⟨51, (.int .i64), .imm, true, false⟩]⟩⟩]
noncomputable def impl_common.con (N : Nat) : Con := { modes := [.v, .v], ptrs := [false], fn := fun ds k => match ds with | [d0, d1] => castDm (.sl 23 (.sl 2 (.int .i64))) .imm d0 fun x0 => castDm (.sl 2 (.int .i64)) .imm d1 fun x1 => bindO (impl_common N x0 x1) fun r => k [⟨(.sl 2 (.int .i64)), .imm, r⟩] [] | _ => none }
noncomputable def impl_common.cfg (N : Nat) : Cfg := { ty := tys, keep := [11, 24], flt := [], elm := [(22, (.own .imm)), (23, (.own .imm)), (24, (.pr (.own .imm) .imm)), (25, (.pr (.own .imm) .imm)), (26, (.own (.own .imm))), (29, (.pr (.pr (.own .imm) .imm) (.pr (.own .imm) .imm))), (30, (.pr (.pr (.own .imm) .imm) (.pr (.own .imm) .imm))), (54, (.pr (.own .imm) .imm)), (55, (.pr (.own .imm) .imm)), (61, (.own .imm))], live := [(5, [5, 7])], ord := [(7, [0, 1, 2, 3, 4, 5])], con := [((29, [.one, .one]), impl_matches.con N), ((47, [.one, .fn 56 2]), slices_ContainsFunc_S_Sint64__Sint64__impl_common_c1.con N)], loops := [(5, loopCon N impl_common.sk5 impl_common.xs5 (fun {R} => impl_common.l5 (R := R) N))], joins := [] }
theorem impl_common.cons (N : Nat) : ConsOk Try.prog (impl_common.cfg N).con := (consOk_cons (hb29) (impl_matches.ok N) (impl_matches.det N) (consOk_cons (hb47) (slices_ContainsFunc_S_Sint64__Sint64__impl_common_c1.ok N) (slices_ContainsFunc_S_Sint64__Sint64__impl_common_c1.det N) consOk_nil))
theorem impl_common.h5 {R : Type} (N : Nat) (d : impl_common.sk5.D) (kn : impl_common.sk5.D → Option R) (kx : XD impl_common.xs5 → Option R) : roundK (impl_common.cfg N) N (nthLoop (fnBody Try.f31) 0) impl_common.sk5 impl_common.xs5 d kn kx = impl_common.l5 N d kn kx := by kernel_rfl
theorem impl_common.i5 (N : Nat) : LoopsOk Try.prog (impl_common.cfg N) (nthLoop (fnBody Try.f31) 0) := loopsL (l := []) (by kernel_rfl) trivial
theorem impl_common.o5 (N : Nat) : LoopOk Try.prog (nthLoop (fnBody Try.f31) 0) (loopCon N impl_common.sk5 impl_common.xs5 (fun {R} => impl_common.l5 (R := R) N)) := loop_ok (g := impl_common.cfg N) tys_ok (impl_common.cons N) mixed (impl_common.i5 N) (fun d kn kx => impl_common.h5 N d kn kx)
theorem impl_common.ls (N : Nat) : LoopsOk Try.prog (impl_common.cfg N) (fnBody Try.f31) := loopsL (l := [nthLoop (fnBody Try.f31) 0]) (by kernel_rfl) ⟨loopOne (L0 := loopCon N impl_common.sk5 impl_common.xs5 (fun {R} => impl_common.l5 (R := R) N)) (id := 5) (by kernel_rfl) (by kernel_rfl) (impl_common.o5 N), trivial⟩
theorem impl_common.q5 {R R' : Type} {N n : Nat} {d} {k} {g : R → Option R'} : bindF (loopP (impl_common.l5 N) n d k) g = loopP (impl_common.l5 N) n d fun e => bindF (k e) g := bindF_loopP (fun d kn kx => by simp only [impl_common.l5, bindF_ifB, bindF_bindO, bindF_pure, bindF_none, bindF_onSum]) n d k
theorem impl_common.b (N : Nat) (x0 : den (.sl 23 (.sl 2 (.int .i64)))) (x1 : den (.sl 2 (.int .i64))) : body (impl_common.cfg N) N Try.f31 [.one, .one] [.v, .v] [(false, .imm)] [⟨(.sl 23 (.sl 2 (.int .i64))), .imm, x0⟩, ⟨(.sl 2 (.int .i64)), .imm, x1⟩] (fun r i => some (r, i)) = bindO (impl_common N x0 x1) fun r => some ([⟨(.sl 2 (.int .i64)), .imm, r⟩], []) := by
  show _ = bindF _ _
  conv => rhs; simp only [impl_common, bindF_ifB, bindF_bindO, bindF_pure, bindF_none, bindF_onSum, impl_common.q5]
  kernel_rfl
theorem impl_common.ok (N : Nat) : ConOk Try.prog 31 [.one, .one] (impl_common.con N) := by
  refine conOk_mk (g := impl_common.cfg N) (N := N) (res := [(false, .imm)]) tys_ok (impl_common.cons N) mixed Try.func31 (impl_common.ls N) rfl rfl ?_
  intro ds R k y h
  cases ds with
  | nil => exact none_some h
  | cons d0 ds =>
  cases ds with
  | nil => exact none_some h
  | cons d1 ds =>
  cases ds with
  | cons _ _ => exact none_some h
  | nil =>
  have h0 : (castDm (.sl 23 (.sl 2 (.int .i64))) .imm d0 fun x0 => castDm (.sl 2 (.int .i64)) .imm d1 fun x1 => bindO (impl_common N x0 x1) fun r => k [⟨(.sl 2 (.int .i64)), .imm, r⟩] []) = some y := h
  clear h
  obtain ⟨x0, rfl, h1⟩ := castDm_eq h0
  obtain ⟨x1, rfl, h2⟩ := castDm_eq h1
  exact con_fin (impl_common.b N x0 x1) h2
theorem impl_common.det (N : Nat) : ConDet (impl_common.con N) := by
  intro ds R k y h
  cases ds with
  | nil => exact none_some h
  | cons d0 ds =>
  cases ds with
  | nil => exact none_some h
  | cons d1 ds =>
  cases ds with
  | cons _ _ => exact none_some h
  | nil =>
  have h0 : (castDm (.sl 23 (.sl 2 (.int .i64))) .imm d0 fun x0 => castDm (.sl 2 (.int .i64)) .imm d1 fun x1 => bindO (impl_common N x0 x1) fun r => k [⟨(.sl 2 (.int .i64)), .imm, r⟩] []) = some y := h
  clear h
  obtain ⟨x0, rfl, h1⟩ := castDm_eq h0
  obtain ⟨x1, rfl, h2⟩ := castDm_eq h1
  obtain ⟨r, e, h⟩ := bindO_some h2
  refine ⟨_, _, h, fun k' => ?_⟩
  show (castDm (.sl 23 (.sl 2 (.int .i64))) .imm (⟨(.sl 23 (.sl 2 (.int .i64))), .imm, x0⟩ : Dy) fun x0 => castDm (.sl 2 (.int .i64)) .imm (⟨(.sl 2 (.int .i64)), .imm, x1⟩ : Dy) fun x1 => bindO (impl_common N x0 x1) fun r => k' [⟨(.sl 2 (.int .i64)), .imm, r⟩] []) = _
  simp only [castDm_self]
  rw [e]
  rfl
noncomputable def slices_Clone_Sint64_int64.con (N : Nat) : Con := { modes := [.v], ptrs := [false], fn := fun ds k => match ds with | [d0] => castDm (.sl 2 (.int .i64)) .imm d0 fun x0 => bindO (slices_Clone_Sint64_int64 N x0) fun r => k [⟨(.sl 2 (.int .i64)), (.own .imm), r⟩] [] | _ => none }
noncomputable def slices_Clone_Sint64_int64.cfg (N : Nat) : Cfg := { ty := tys, keep := [], flt := [], elm := [(22, (.own .imm)), (23, (.own .imm)), (24, (.pr (.own .imm) .imm)), (25, (.pr (.own .imm) .imm)), (26, (.own (.own .imm))), (29, (.pr (.pr (.own .imm) .imm) (.pr (.own .imm) .imm))), (30, (.pr (.pr (.own .imm) .imm) (.pr (.own .imm) .imm))), (54, (.pr (.own .imm) .imm)), (55, (.pr (.own .imm) .imm)), (61, (.own .imm))], live := [], ord := [], con := [], loops := [], joins := [] }
theorem slices_Clone_Sint64_int64.cons (N : Nat) : ConsOk Try.prog (slices_Clone_Sint64_int64.cfg N).con := consOk_nil
theorem slices_Clone_Sint64_int64.ls (N : Nat) : LoopsOk Try.prog (slices_Clone_Sint64_int64.cfg N) (fnBody Try.f30) := loopsL (l := []) (by kernel_rfl) trivial
theorem slices_Clone_Sint64_int64.pu {R : Type} (N : Nat) (x0 : den (.sl 2 (.int .i64))) (f : _ → Option R) : Psh (slices_Clone_Sint64_int64 N x0) (slices_Clone_Sint64_int64.g N x0 f) f := by
  unfold slices_Clone_Sint64_int64 slices_Clone_Sint64_int64.g
  repeat' (first | exact psh_pure | exact psh_none | refine psh_ifB ?_ ?_ | refine psh_same ?_ ?_ | refine psh_bindO fun _ => ?_)
theorem slices_Clone_Sint64_int64.b (N : Nat) (x0 : den (.sl 2 (.int .i64))) : body (slices_Clone_Sint64_int64.cfg N) N Try.f30 [.one] [.v] [(false, (.own .imm))] [⟨(.sl 2 (.int .i64)), .imm, x0⟩] (fun r i => some (r, i)) = slices_Clone_Sint64_int64.g N x0 fun r => some ([⟨(.sl 2 (.int .i64)), (.own .imm), r⟩], []) := by kernel_rfl
theorem slices_Clone_Sint64_int64.ok (N : Nat) : ConOk Try.prog 30 [.one] (slices_Clone_Sint64_int64.con N) := by
  refine conOk_mk (g := slices_Clone_Sint64_int64.cfg N) (N := N) (res := [(false, (.own .imm))]) tys_ok (slices_Clone_Sint64_int64.cons N) mixed Try.func30 (slices_Clone_Sint64_int64.ls N) rfl rfl ?_
  intro ds R k y h
  cases ds with
  | nil => exact none_some h
  | cons d0 ds =>
  cases ds with
  | cons _ _ => exact none_some h
  | nil =>
  have h0 : (castDm (.sl 2 (.int .i64)) .imm d0 fun x0 => bindO (slices_Clone_Sint64_int64 N x0) fun r => k [⟨(.sl 2 (.int .i64)), (.own .imm), r⟩] []) = some y := h
  clear h
  obtain ⟨x0, rfl, h1⟩ := castDm_eq h0
  exact con_fin' (slices_Clone_Sint64_int64.b N x0) (slices_Clone_Sint64_int64.pu N x0 _) h1
theorem slices_Clone_Sint64_int64.det (N : Nat) : ConDet (slices_Clone_Sint64_int64.con N) := by
  intro ds R k y h
  cases ds with
  | nil => exact none_some h
  | cons d0 ds =>
  cases ds with
  | cons _ _ => exact none_some h
  | nil =>
  have h0 : (castDm (.sl 2 (.int .i64)) .imm d0 fun x0 => bindO (slices_Clone_Sint64_int64 N x0) fun r => k [⟨(.sl 2 (.int .i64)), (.own .imm), r⟩] []) = some y := h
  clear h
  obtain ⟨x0, rfl, h1⟩ := castDm_eq h0
  obtain ⟨r, e, h⟩ := bindO_some h1
  refine ⟨_, _, h, fun k' => ?_⟩
  show (castDm (.sl 2 (.int .i64)) .imm (⟨(.sl 2 (.int .i64)), .imm, x0⟩ : Dy) fun x0 => bindO (slices_Clone_Sint64_int64 N x0) fun r => k' [⟨(.sl 2 (.int .i64)), (.own .imm), r⟩] []) = _
  simp only [castDm_self]
  rw [e]
  rfl
end Go.AE.F
