/- The printed functions are what the program comes to: contracts. -/
import Derived.Test.YtkloldobbepgfaaXCompCommonL2
namespace Go.AE.F
open Go.AE Go.Proofs
set_option maxRecDepth 100000
def impl_common.sk5 : Skel := ⟨[.dead, .dead, .dead, .dead, .dead, .ptr 50 [], .dead, .ptr 51 [], .dead, .dead, .dead, .dead, .dead, .dead, .dead, .dead, .dead, .dead, .dead, .dead, .dead, .dead, .dead, .dead, .dead, .dead, .dead, .dead, .dead, .dead, .dead, .dead], [⟨50, (.sl 23 (.sl 2 (.int .i64))), (.own .imm), true, false⟩, ⟨51, (.int .i64), .imm, true, false⟩]⟩
def impl_common.xs5 : List XS := [⟨.exit 0, [5, 7], ⟨[.dead, .dead, .dead, .dead, .dead, .ptr 50 [], .dead, .ptr 51 [], .dead, .dead, .dead, .dead, .dead, .dead, .dead, .dead, .dead, .dead, .dead, .dead, .dead, .dead, .dead, .dead, .dead, .dead, .dead, .dead, .dead, .dead, .dead, .dead], [⟨50, (.sl 23 (.sl 2 (.int .i64))), (.own .imm), true, false⟩, ⟨51, (.int .i64), .imm, true, false⟩]⟩⟩]
noncomputable def impl_common.con (N : Nat) : Con := { modes := [.v, .v], ptrs := [false], fn := fun ds k => match ds with | [d0, d1] => castDm (.sl 23 (.sl 2 (.int .i64))) .imm d0 fun x0 => castDm (.sl 2 (.int .i64)) .imm d1 fun x1 => bindO (impl_common N x0 x1) fun r => k [⟨(.sl 2 (.int .i64)), .imm, r⟩] [] | _ => none }
noncomputable def impl_common.cfg (N : Nat) : Cfg := { ty := tys, keep := [11, 24], flt := [], elm := [(22, (.own (.own .imm))), (23, (.own .imm)), (32, (.own .imm)), (35, (.own .imm)), (42, (.own .imm)), (47, (.pr (.own (.own .imm)) (.pr .imm (.pr (.own .imm) .imm)))), (48, (.pr (.own (.own .imm)) (.pr .imm (.pr (.own .imm) .imm)))), (57, (.pr (.pr (.own (.own .imm)) (.pr .imm (.pr (.own .imm) .imm))) (.pr (.own .imm) .imm))), (58, (.pr (.pr (.own (.own .imm)) (.pr .imm (.pr (.own .imm) .imm))) (.pr (.own .imm) .imm))), (62, (.pr (.own .imm) .imm)), (63, (.pr (.own .imm) .imm)), (70, (.pr (.own (.own .imm)) .imm)), (71, (.pr (.own (.own .imm)) .imm)), (73, (.pr (.own (.own .imm)) .imm)), (86, (.pr (.pr (.own .imm) .imm) .imm)), (87, (.pr (.pr (.own .imm) .imm) .imm)), (92, (.own (.pr (.own .imm) .imm))), (93, (.pr (.own (.pr (.own .imm) .imm)) (.pr (.own (.pr (.own .imm) .imm)) .imm))), (94, (.pr (.own (.pr (.own .imm) .imm)) (.pr (.own (.pr (.own .imm) .imm)) .imm))), (95, (.pr (.pr (.own (.pr (.own .imm) .imm)) (.pr (.own (.pr (.own .imm) .imm)) .imm)) (.pr (.pr (.own .imm) .imm) .imm))), (96, (.pr (.pr (.own (.pr (.own .imm) .imm)) (.pr (.own (.pr (.own .imm) .imm)) .imm)) (.pr (.pr (.own .imm) .imm) .imm))), (99, (.own .imm)), (134, (.own .imm)), (137, (.own (.pr (.pr (.own .imm) .imm) .imm))), (138, (.pr .imm (.pr .imm (.pr .imm (.pr (.own (.pr (.pr (.own .imm) .imm) .imm)) (.pr .imm (.pr (.own .imm) .imm))))))), (139, (.pr .imm (.pr .imm (.pr .imm (.pr (.own (.pr (.pr (.own .imm) .imm) .imm)) (.pr .imm (.pr (.own .imm) .imm))))))), (141, (.pr (.pr (.own .imm) .imm) (.pr (.own .imm) .imm))), (142, (.pr (.pr (.own .imm) .imm) (.pr (.own .imm) .imm))), (148, (.pr (.own .imm) .imm)), (149, (.pr (.own .imm) .imm)), (168, (.own (.own (.pr (.own .imm) .imm)))), (169, (.pr .imm (.pr (.own (.own (.pr (.own .imm) .imm))) .imm))), (170, (.pr .imm (.pr (.own (.own (.pr (.own .imm) .imm))) .imm))), (190, (.pr (.own .imm) .imm)), (191, (.pr (.own .imm) .imm)), (192, (.pr (.pr (.own .imm) .imm) .imm)), (193, (.pr (.pr (.own .imm) .imm) .imm)), (194, (.own (.pr (.own .imm) .imm)))], live := [(5, [5, 7])], ord := [(7, [0, 1, 2, 3, 4, 5])], con := [((102, [.one, .one]), impl_matches.con N), ((148, [.one, .fn 163 2]), slices_ContainsFunc_S_Sint64__Sint64__impl_common_c1.con N)], loops := [(5, loopCon N impl_common.sk5 impl_common.xs5 (fun {R} => impl_common.l5 (R := R) N))], joins := [] }
theorem impl_common.cons (N : Nat) : ConsOk Try.prog (impl_common.cfg N).con := (consOk_cons (hb102) (impl_matches.ok N) (consOk_cons (hb148) (slices_ContainsFunc_S_Sint64__Sint64__impl_common_c1.ok N) consOk_nil))
theorem impl_common.h5 {R : Type} (N : Nat) (d : impl_common.sk5.D) (kn : impl_common.sk5.D → Option R) (kx : XD impl_common.xs5 → Option R) : roundK (impl_common.cfg N) N (nthLoop (fnBody Try.f92) 0) impl_common.sk5 impl_common.xs5 d kn kx = impl_common.l5 N d kn kx := by kernel_rfl
theorem impl_common.i5 (N : Nat) : LoopsOk Try.prog (impl_common.cfg N) (nthLoop (fnBody Try.f92) 0) := loopsL (l := []) (by kernel_rfl) trivial
theorem impl_common.o5 (N : Nat) : LoopOk Try.prog (nthLoop (fnBody Try.f92) 0) (loopCon N impl_common.sk5 impl_common.xs5 (fun {R} => impl_common.l5 (R := R) N)) := loop_ok (g := impl_common.cfg N) tys_ok (impl_common.cons N) mixed (impl_common.i5 N) (fun d kn kx => impl_common.h5 N d kn kx)
theorem impl_common.ls (N : Nat) : LoopsOk Try.prog (impl_common.cfg N) (fnBody Try.f92) := loopsL (l := [nthLoop (fnBody Try.f92) 0]) (by kernel_rfl) ⟨loopOne (L0 := loopCon N impl_common.sk5 impl_common.xs5 (fun {R} => impl_common.l5 (R := R) N)) (id := 5) (by kernel_rfl) (by kernel_rfl) (impl_common.o5 N), trivial⟩
theorem impl_common.q5 {R R' : Type} {N n : Nat} {d} {k} {g : R → Option R'} : bindF (loopP (impl_common.l5 N) n d k) g = loopP (impl_common.l5 N) n d fun e => bindF (k e) g := bindF_loopP (fun d kn kx => by simp only [impl_common.l5, bindF_ifB, bindF_bindO, bindF_pure, bindF_none, bindF_onSum]) n d k
theorem impl_common.b (N : Nat) (x0 : den (.sl 23 (.sl 2 (.int .i64)))) (x1 : den (.sl 2 (.int .i64))) : body (impl_common.cfg N) N Try.f92 [.one, .one] [.v, .v] [(false, .imm)] [⟨(.sl 23 (.sl 2 (.int .i64))), .imm, x0⟩, ⟨(.sl 2 (.int .i64)), .imm, x1⟩] (fun r i => some (r, i)) = bindO (impl_common N x0 x1) fun r => some ([⟨(.sl 2 (.int .i64)), .imm, r⟩], []) := by
  show _ = bindF _ _
  conv => rhs; simp only [impl_common, bindF_ifB, bindF_bindO, bindF_pure, bindF_none, bindF_onSum, impl_common.q5]
  kernel_rfl
theorem impl_common.ok (N : Nat) : ConOk Try.prog 92 [.one, .one] (impl_common.con N) := by
  refine conOk_mk (g := impl_common.cfg N) (N := N) (res := [(false, .imm)]) tys_ok (impl_common.cons N) mixed Try.func92 (impl_common.ls N) rfl rfl ?_
  intro ds R k y h
  cases ds with
  | nil => exact none_some h
  | cons d0 ds =>
  cases ds with
  | nil => exact none_some h
  | cons d1 ds =>
  cases ds with
  | cons _ _ => exact none_some h
  | nil =>
  have h0 : (castDm (.sl 23 (.sl 2 (.int .i64))) .imm d0 fun x0 => castDm (.sl 2 (.int .i64)) .imm d1 fun x1 => bindO (impl_common N x0 x1) fun r => k [⟨(.sl 2 (.int .i64)), .imm, r⟩] []) = some y := h
  clear h
  obtain ⟨x0, rfl, h1⟩ := castDm_eq h0
  obtain ⟨x1, rfl, h2⟩ := castDm_eq h1
  exact con_fin (impl_common.b N x0 x1) h2
noncomputable def impl_CompCommon.con (N : Nat) : Con := { modes := [.v, .v], ptrs := [false], fn := fun ds k => match ds with | [d0, d1] => castDm (.sl 23 (.sl 2 (.int .i64))) .imm d0 fun x0 => castDm (.sl 2 (.int .i64)) .imm d1 fun x1 => bindO (impl_CompCommon N x0 x1) fun r => k [⟨(.sl 2 (.int .i64)), (.own .imm), r⟩] [] | _ => none }
noncomputable def impl_CompCommon.cfg (N : Nat) : Cfg := { ty := tys, keep := [8, 11, 16, 19, 22, 23], flt := [], elm := [(22, (.own (.own .imm))), (23, (.own .imm)), (32, (.own .imm)), (35, (.own .imm)), (42, (.own .imm)), (47, (.pr (.own (.own .imm)) (.pr .imm (.pr (.own .imm) .imm)))), (48, (.pr (.own (.own .imm)) (.pr .imm (.pr (.own .imm) .imm)))), (57, (.pr (.pr (.own (.own .imm)) (.pr .imm (.pr (.own .imm) .imm))) (.pr (.own .imm) .imm))), (58, (.pr (.pr (.own (.own .imm)) (.pr .imm (.pr (.own .imm) .imm))) (.pr (.own .imm) .imm))), (62, (.pr (.own .imm) .imm)), (63, (.pr (.own .imm) .imm)), (70, (.pr (.own (.own .imm)) .imm)), (71, (.pr (.own (.own .imm)) .imm)), (73, (.pr (.own (.own .imm)) .imm)), (86, (.pr (.pr (.own .imm) .imm) .imm)), (87, (.pr (.pr (.own .imm) .imm) .imm)), (92, (.own (.pr (.own .imm) .imm))), (93, (.pr (.own (.pr (.own .imm) .imm)) (.pr (.own (.pr (.own .imm) .imm)) .imm))), (94, (.pr (.own (.pr (.own .imm) .imm)) (.pr (.own (.pr (.own .imm) .imm)) .imm))), (95, (.pr (.pr (.own (.pr (.own .imm) .imm)) (.pr (.own (.pr (.own .imm) .imm)) .imm)) (.pr (.pr (.own .imm) .imm) .imm))), (96, (.pr (.pr (.own (.pr (.own .imm) .imm)) (.pr (.own (.pr (.own .imm) .imm)) .imm)) (.pr (.pr (.own .imm) .imm) .imm))), (99, (.own .imm)), (134, (.own .imm)), (137, (.own (.pr (.pr (.own .imm) .imm) .imm))), (138, (.pr .imm (.pr .imm (.pr .imm (.pr (.own (.pr (.pr (.own .imm) .imm) .imm)) (.pr .imm (.pr (.own .imm) .imm))))))), (139, (.pr .imm (.pr .imm (.pr .imm (.pr (.own (.pr (.pr (.own .imm) .imm) .imm)) (.pr .imm (.pr (.own .imm) .imm))))))), (141, (.pr (.pr (.own .imm) .imm) (.pr (.own .imm) .imm))), (142, (.pr (.pr (.own .imm) .imm) (.pr (.own .imm) .imm))), (148, (.pr (.own .imm) .imm)), (149, (.pr (.own .imm) .imm)), (168, (.own (.own (.pr (.own .imm) .imm)))), (169, (.pr .imm (.pr (.own (.own (.pr (.own .imm) .imm))) .imm))), (170, (.pr .imm (.pr (.own (.own (.pr (.own .imm) .imm))) .imm))), (190, (.pr (.own .imm) .imm)), (191, (.pr (.own .imm) .imm)), (192, (.pr (.pr (.own .imm) .imm) .imm)), (193, (.pr (.pr (.own .imm) .imm) .imm)), (194, (.own (.pr (.own .imm) .imm)))], live := [], ord := [], con := [((88, [.one]), impl_isMany.con N), ((89, [.one]), impl_PointsRight.con N), ((90, [.one]), impl_CandsRight.con N), ((91, [.one]), slices_Clone_Sint64_int64.con N), ((92, [.one, .one]), impl_common.con N)], loops := [], joins := [] }
theorem impl_CompCommon.cons (N : Nat) : ConsOk Try.prog (impl_CompCommon.cfg N).con := (consOk_cons (hb88) (impl_isMany.ok N) (consOk_cons (hb89) (impl_PointsRight.ok N) (consOk_cons (hb90) (impl_CandsRight.ok N) (consOk_cons (hb91) (slices_Clone_Sint64_int64.ok N) (consOk_cons (hb92) (impl_common.ok N) consOk_nil)))))
theorem impl_CompCommon.ls (N : Nat) : LoopsOk Try.prog (impl_CompCommon.cfg N) (fnBody Try.f19) := loopsL (l := []) (by kernel_rfl) trivial
theorem impl_CompCommon.b (N : Nat) (x0 : den (.sl 23 (.sl 2 (.int .i64)))) (x1 : den (.sl 2 (.int .i64))) : body (impl_CompCommon.cfg N) N Try.f19 [.one, .one] [.v, .v] [(false, (.own .imm))] [⟨(.sl 23 (.sl 2 (.int .i64))), .imm, x0⟩, ⟨(.sl 2 (.int .i64)), .imm, x1⟩] (fun r i => some (r, i)) = bindO (impl_CompCommon N x0 x1) fun r => some ([⟨(.sl 2 (.int .i64)), (.own .imm), r⟩], []) := by
  show _ = bindF _ _
  conv => rhs; simp only [impl_CompCommon, bindF_ifB, bindF_bindO, bindF_pure, bindF_none, bindF_onSum]
  kernel_rfl
theorem impl_CompCommon.ok (N : Nat) : ConOk Try.prog 19 [.one, .one] (impl_CompCommon.con N) := by
  refine conOk_mk (g := impl_CompCommon.cfg N) (N := N) (res := [(false, (.own .imm))]) tys_ok (impl_CompCommon.cons N) mixed Try.func19 (impl_CompCommon.ls N) rfl rfl ?_
  intro ds R k y h
  cases ds with
  | nil => exact none_some h
  | cons d0 ds =>
  cases ds with
  | nil => exact none_some h
  | cons d1 ds =>
  cases ds with
  | cons _ _ => exact none_some h
  | nil =>
  have h0 : (castDm (.sl 23 (.sl 2 (.int .i64))) .imm d0 fun x0 => castDm (.sl 2 (.int .i64)) .imm d1 fun x1 => bindO (impl_CompCommon N x0 x1) fun r => k [⟨(.sl 2 (.int .i64)), (.own .imm), r⟩] []) = some y := h
  clear h
  obtain ⟨x0, rfl, h1⟩ := castDm_eq h0
  obtain ⟨x1, rfl, h2⟩ := castDm_eq h1
  exact con_fin (impl_CompCommon.b N x0 x1) h2
def laws_eqInt64S.sk4 : Skel := ⟨[.pv (.sl 2 (.int .i64)), .pv (.sl 2 (.int .i64)), .dead, .dead, .dead, .pv (.int .i64), .dead, .dead, .dead, .dead, .dead, .dead, .dead, .dead, .dead, .dead, .dead, .dead, .dead, .dead, .dead, .dead, .dead, .dead, .dead, .dead], []⟩
def laws_eqInt64S.xs4 : List XS := [⟨.exit 0, [], ⟨[.dead, .dead, .dead, .dead, .dead, .dead, .dead, .dead, .dead, .dead, .dead, .dead, .dead, .dead, .dead, .dead, .dead, .dead, .dead, .dead, .dead, .dead, .dead, .dead, .dead, .dead], []⟩⟩, ⟨.ret, [4], ⟨[.dead, .dead, .dead, .dead, .pv .bool, .dead, .dead, .dead, .dead, .dead, .dead, .dead, .dead, .dead, .dead, .dead, .dead, .dead, .dead, .dead, .dead, .dead, .dead, .dead, .dead, .dead], []⟩⟩]
noncomputable def laws_eqInt64S.con (N : Nat) : Con := { modes := [.v, .v], ptrs := [false], fn := fun ds k => match ds with | [d0, d1] => castDm (.sl 2 (.int .i64)) .imm d0 fun x0 => castDm (.sl 2 (.int .i64)) .imm d1 fun x1 => bindO (laws_eqInt64S N x0 x1) fun r => k [⟨.bool, .imm, r⟩] [] | _ => none }
noncomputable def laws_eqInt64S.cfg (N : Nat) : Cfg := { ty := tys, keep := [], flt := [], elm := [(22, (.own (.own .imm))), (23, (.own .imm)), (32, (.own .imm)), (35, (.own .imm)), (42, (.own .imm)), (47, (.pr (.own (.own .imm)) (.pr .imm (.pr (.own .imm) .imm)))), (48, (.pr (.own (.own .imm)) (.pr .imm (.pr (.own .imm) .imm)))), (57, (.pr (.pr (.own (.own .imm)) (.pr .imm (.pr (.own .imm) .imm))) (.pr (.own .imm) .imm))), (58, (.pr (.pr (.own (.own .imm)) (.pr .imm (.pr (.own .imm) .imm))) (.pr (.own .imm) .imm))), (62, (.pr (.own .imm) .imm)), (63, (.pr (.own .imm) .imm)), (70, (.pr (.own (.own .imm)) .imm)), (71, (.pr (.own (.own .imm)) .imm)), (73, (.pr (.own (.own .imm)) .imm)), (86, (.pr (.pr (.own .imm) .imm) .imm)), (87, (.pr (.pr (.own .imm) .imm) .imm)), (92, (.own (.pr (.own .imm) .imm))), (93, (.pr (.own (.pr (.own .imm) .imm)) (.pr (.own (.pr (.own .imm) .imm)) .imm))), (94, (.pr (.own (.pr (.own .imm) .imm)) (.pr (.own (.pr (.own .imm) .imm)) .imm))), (95, (.pr (.pr (.own (.pr (.own .imm) .imm)) (.pr (.own (.pr (.own .imm) .imm)) .imm)) (.pr (.pr (.own .imm) .imm) .imm))), (96, (.pr (.pr (.own (.pr (.own .imm) .imm)) (.pr (.own (.pr (.own .imm) .imm)) .imm)) (.pr (.pr (.own .imm) .imm) .imm))), (99, (.own .imm)), (134, (.own .imm)), (137, (.own (.pr (.pr (.own .imm) .imm) .imm))), (138, (.pr .imm (.pr .imm (.pr .imm (.pr (.own (.pr (.pr (.own .imm) .imm) .imm)) (.pr .imm (.pr (.own .imm) .imm))))))), (139, (.pr .imm (.pr .imm (.pr .imm (.pr (.own (.pr (.pr (.own .imm) .imm) .imm)) (.pr .imm (.pr (.own .imm) .imm))))))), (141, (.pr (.pr (.own .imm) .imm) (.pr (.own .imm) .imm))), (142, (.pr (.pr (.own .imm) .imm) (.pr (.own .imm) .imm))), (148, (.pr (.own .imm) .imm)), (149, (.pr (.own .imm) .imm)), (168, (.own (.own (.pr (.own .imm) .imm)))), (169, (.pr .imm (.pr (.own (.own (.pr (.own .imm) .imm))) .imm))), (170, (.pr .imm (.pr (.own (.own (.pr (.own .imm) .imm))) .imm))), (190, (.pr (.own .imm) .imm)), (191, (.pr (.own .imm) .imm)), (192, (.pr (.pr (.own .imm) .imm) .imm)), (193, (.pr (.pr (.own .imm) .imm) .imm)), (194, (.own (.pr (.own .imm) .imm)))], live := [(4, [0, 1, 5])], ord := [(6, [0, 1, 2, 3, 4, 5, 6, 7, 8])], con := [], loops := [(4, loopCon N laws_eqInt64S.sk4 laws_eqInt64S.xs4 (fun {R} => laws_eqInt64S.l4 (R := R) N))], joins := [] }
theorem laws_eqInt64S.cons (N : Nat) : ConsOk Try.prog (laws_eqInt64S.cfg N).con := consOk_nil
theorem laws_eqInt64S.h4 {R : Type} (N : Nat) (d : laws_eqInt64S.sk4.D) (kn : laws_eqInt64S.sk4.D → Option R) (kx : XD laws_eqInt64S.xs4 → Option R) : roundK (laws_eqInt64S.cfg N) N (nthLoop (fnBody Try.f20) 0) laws_eqInt64S.sk4 laws_eqInt64S.xs4 d kn kx = laws_eqInt64S.l4 N d kn kx := by kernel_rfl
theorem laws_eqInt64S.i4 (N : Nat) : LoopsOk Try.prog (laws_eqInt64S.cfg N) (nthLoop (fnBody Try.f20) 0) := loopsL (l := []) (by kernel_rfl) trivial
theorem laws_eqInt64S.o4 (N : Nat) : LoopOk Try.prog (nthLoop (fnBody Try.f20) 0) (loopCon N laws_eqInt64S.sk4 laws_eqInt64S.xs4 (fun {R} => laws_eqInt64S.l4 (R := R) N)) := loop_ok (g := laws_eqInt64S.cfg N) tys_ok (laws_eqInt64S.cons N) mixed (laws_eqInt64S.i4 N) (fun d kn kx => laws_eqInt64S.h4 N d kn kx)
theorem laws_eqInt64S.ls (N : Nat) : LoopsOk Try.prog (laws_eqInt64S.cfg N) (fnBody Try.f20) := loopsL (l := [nthLoop (fnBody Try.f20) 0]) (by kernel_rfl) ⟨loopOne (L0 := loopCon N laws_eqInt64S.sk4 laws_eqInt64S.xs4 (fun {R} => laws_eqInt64S.l4 (R := R) N)) (id := 4) (by kernel_rfl) (by kernel_rfl) (laws_eqInt64S.o4 N), trivial⟩
theorem laws_eqInt64S.q4 {R R' : Type} {N n : Nat} {d} {k} {g : R → Option R'} : bindF (loopP (laws_eqInt64S.l4 N) n d k) g = loopP (laws_eqInt64S.l4 N) n d fun e => bindF (k e) g := bindF_loopP (fun d kn kx => by simp only [laws_eqInt64S.l4, bindF_ifB, bindF_bindO, bindF_pure, bindF_none, bindF_onSum]) n d k
theorem laws_eqInt64S.b (N : Nat) (x0 : den (.sl 2 (.int .i64))) (x1 : den (.sl 2 (.int .i64))) : body (laws_eqInt64S.cfg N) N Try.f20 [.one, .one] [.v, .v] [(false, .imm)] [⟨(.sl 2 (.int .i64)), .imm, x0⟩, ⟨(.sl 2 (.int .i64)), .imm, x1⟩] (fun r i => some (r, i)) = bindO (laws_eqInt64S N x0 x1) fun r => some ([⟨.bool, .imm, r⟩], []) := by
  show _ = bindF _ _
  conv => rhs; simp only [laws_eqInt64S, bindF_ifB, bindF_bindO, bindF_pure, bindF_none, bindF_onSum, laws_eqInt64S.q4]
  kernel_rfl
theorem laws_eqInt64S.ok (N : Nat) : ConOk Try.prog 20 [.one, .one] (laws_eqInt64S.con N) := by
  refine conOk_mk (g := laws_eqInt64S.cfg N) (N := N) (res := [(false, .imm)]) tys_ok (laws_eqInt64S.cons N) mixed Try.func20 (laws_eqInt64S.ls N) rfl rfl ?_
  intro ds R k y h
  cases ds with
  | nil => exact none_some h
  | cons d0 ds =>
  cases ds with
  | nil => exact none_some h
  | cons d1 ds =>
  cases ds with
  | cons _ _ => exact none_some h
  | nil =>
  have h0 : (castDm (.sl 2 (.int .i64)) .imm d0 fun x0 => castDm (.sl 2 (.int .i64)) .imm d1 fun x1 => bindO (laws_eqInt64S N x0 x1) fun r => k [⟨.bool, .imm, r⟩] []) = some y := h
  clear h
  obtain ⟨x0, rfl, h1⟩ := castDm_eq h0
  obtain ⟨x1, rfl, h2⟩ := castDm_eq h1
  exact con_fin (laws_eqInt64S.b N x0 x1) h2
def laws_eqInt64SS.sk4 : Skel := ⟨[.pv (.sl 23 (.sl 2 (.int .i64))), .pv (.sl 23 (.sl 2 (.int .i64))), .dead, .dead, .dead, .pv (.int .i64), .dead, .dead, .dead, .dead, .dead, .dead, .dead, .dead, .dead, .dead, .dead, .dead, .dead, .dead, .dead, .dead, .dead, .dead, .dead, .dead, .dead], []⟩
def laws_eqInt64SS.xs4 : List XS := [⟨.exit 0, [], ⟨[.dead, .dead, .dead, .dead, .dead, .dead, .dead, .dead, .dead, .dead, .dead, .dead, .dead, .dead, .dead, .dead, .dead, .dead, .dead, .dead, .dead, .dead, .dead, .dead, .dead, .dead, .dead], []⟩⟩, ⟨.ret, [4], ⟨[.dead, .dead, .dead, .dead, .pv .bool, .dead, .dead, .dead, .dead, .dead, .dead, .dead, .dead, .dead, .dead, .dead, .dead, .dead, .dead, .dead, .dead, .dead, .dead, .dead, .dead, .dead, .dead], []⟩⟩]
noncomputable def laws_eqInt64SS.con (N : Nat) : Con := { modes := [.v, .v], ptrs := [false], fn := fun ds k => match ds with | [d0, d1] => castDm (.sl 23 (.sl 2 (.int .i64))) .imm d0 fun x0 => castDm (.sl 23 (.sl 2 (.int .i64))) .imm d1 fun x1 => bindO (laws_eqInt64SS N x0 x1) fun r => k [⟨.bool, .imm, r⟩] [] | _ => none }
noncomputable def laws_eqInt64SS.cfg (N : Nat) : Cfg := { ty := tys, keep := [25], flt := [], elm := [(22, (.own (.own .imm))), (23, (.own .imm)), (32, (.own .imm)), (35, (.own .imm)), (42, (.own .imm)), (47, (.pr (.own (.own .imm)) (.pr .imm (.pr (.own .imm) .imm)))), (48, (.pr (.own (.own .imm)) (.pr .imm (.pr (.own .imm) .imm)))), (57, (.pr (.pr (.own (.own .imm)) (.pr .imm (.pr (.own .imm) .imm))) (.pr (.own .imm) .imm))), (58, (.pr (.pr (.own (.own .imm)) (.pr .imm (.pr (.own .imm) .imm))) (.pr (.own .imm) .imm))), (62, (.pr (.own .imm) .imm)), (63, (.pr (.own .imm) .imm)), (70, (.pr (.own (.own .imm)) .imm)), (71, (.pr (.own (.own .imm)) .imm)), (73, (.pr (.own (.own .imm)) .imm)), (86, (.pr (.pr (.own .imm) .imm) .imm)), (87, (.pr (.pr (.own .imm) .imm) .imm)), (92, (.own (.pr (.own .imm) .imm))), (93, (.pr (.own (.pr (.own .imm) .imm)) (.pr (.own (.pr (.own .imm) .imm)) .imm))), (94, (.pr (.own (.pr (.own .imm) .imm)) (.pr (.own (.pr (.own .imm) .imm)) .imm))), (95, (.pr (.pr (.own (.pr (.own .imm) .imm)) (.pr (.own (.pr (.own .imm) .imm)) .imm)) (.pr (.pr (.own .imm) .imm) .imm))), (96, (.pr (.pr (.own (.pr (.own .imm) .imm)) (.pr (.own (.pr (.own .imm) .imm)) .imm)) (.pr (.pr (.own .imm) .imm) .imm))), (99, (.own .imm)), (134, (.own .imm)), (137, (.own (.pr (.pr (.own .imm) .imm) .imm))), (138, (.pr .imm (.pr .imm (.pr .imm (.pr (.own (.pr (.pr (.own .imm) .imm) .imm)) (.pr .imm (.pr (.own .imm) .imm))))))), (139, (.pr .imm (.pr .imm (.pr .imm (.pr (.own (.pr (.pr (.own .imm) .imm) .imm)) (.pr .imm (.pr (.own .imm) .imm))))))), (141, (.pr (.pr (.own .imm) .imm) (.pr (.own .imm) .imm))), (142, (.pr (.pr (.own .imm) .imm) (.pr (.own .imm) .imm))), (148, (.pr (.own .imm) .imm)), (149, (.pr (.own .imm) .imm)), (168, (.own (.own (.pr (.own .imm) .imm)))), (169, (.pr .imm (.pr (.own (.own (.pr (.own .imm) .imm))) .imm))), (170, (.pr .imm (.pr (.own (.own (.pr (.own .imm) .imm))) .imm))), (190, (.pr (.own .imm) .imm)), (191, (.pr (.own .imm) .imm)), (192, (.pr (.pr (.own .imm) .imm) .imm)), (193, (.pr (.pr (.own .imm) .imm) .imm)), (194, (.own (.pr (.own .imm) .imm)))], live := [(4, [0, 1, 5])], ord := [(6, [0, 1, 2, 3, 4, 5, 6, 7, 8, 9])], con := [((20, [.one, .one]), laws_eqInt64S.con N)], loops := [(4, loopCon N laws_eqInt64SS.sk4 laws_eqInt64SS.xs4 (fun {R} => laws_eqInt64SS.l4 (R := R) N))], joins := [] }
theorem laws_eqInt64SS.cons (N : Nat) : ConsOk Try.prog (laws_eqInt64SS.cfg N).con := (consOk_cons (hb20) (laws_eqInt64S.ok N) consOk_nil)
theorem laws_eqInt64SS.h4 {R : Type} (N : Nat) (d : laws_eqInt64SS.sk4.D) (kn : laws_eqInt64SS.sk4.D → Option R) (kx : XD laws_eqInt64SS.xs4 → Option R) : roundK (laws_eqInt64SS.cfg N) N (nthLoop (fnBody Try.f21) 0) laws_eqInt64SS.sk4 laws_eqInt64SS.xs4 d kn kx = laws_eqInt64SS.l4 N d kn kx := by kernel_rfl
theorem laws_eqInt64SS.i4 (N : Nat) : LoopsOk Try.prog (laws_eqInt64SS.cfg N) (nthLoop (fnBody Try.f21) 0) := loopsL (l := []) (by kernel_rfl) trivial
theorem laws_eqInt64SS.o4 (N : Nat) : LoopOk Try.prog (nthLoop (fnBody Try.f21) 0) (loopCon N laws_eqInt64SS.sk4 laws_eqInt64SS.xs4 (fun {R} => laws_eqInt64SS.l4 (R := R) N)) := loop_ok (g := laws_eqInt64SS.cfg N) tys_ok (laws_eqInt64SS.cons N) mixed (laws_eqInt64SS.i4 N) (fun d kn kx => laws_eqInt64SS.h4 N d kn kx)
theorem laws_eqInt64SS.ls (N : Nat) : LoopsOk Try.prog (laws_eqInt64SS.cfg N) (fnBody Try.f21) := loopsL (l := [nthLoop (fnBody Try.f21) 0]) (by kernel_rfl) ⟨loopOne (L0 := loopCon N laws_eqInt64SS.sk4 laws_eqInt64SS.xs4 (fun {R} => laws_eqInt64SS.l4 (R := R) N)) (id := 4) (by kernel_rfl) (by kernel_rfl) (laws_eqInt64SS.o4 N), trivial⟩
theorem laws_eqInt64SS.q4 {R R' : Type} {N n : Nat} {d} {k} {g : R → Option R'} : bindF (loopP (laws_eqInt64SS.l4 N) n d k) g = loopP (laws_eqInt64SS.l4 N) n d fun e => bindF (k e) g := bindF_loopP (fun d kn kx => by simp only [laws_eqInt64SS.l4, bindF_ifB, bindF_bindO, bindF_pure, bindF_none, bindF_onSum]) n d k
theorem laws_eqInt64SS.b (N : Nat) (x0 : den (.sl 23 (.sl 2 (.int .i64)))) (x1 : den (.sl 23 (.sl 2 (.int .i64)))) : body (laws_eqInt64SS.cfg N) N Try.f21 [.one, .one] [.v, .v] [(false, .imm)] [⟨(.sl 23 (.sl 2 (.int .i64))), .imm, x0⟩, ⟨(.sl 23 (.sl 2 (.int .i64))), .imm, x1⟩] (fun r i => some (r, i)) = bindO (laws_eqInt64SS N x0 x1) fun r => some ([⟨.bool, .imm, r⟩], []) := by
  show _ = bindF _ _
  conv => rhs; simp only [laws_eqInt64SS, bindF_ifB, bindF_bindO, bindF_pure, bindF_none, bindF_onSum, laws_eqInt64SS.q4]
  kernel_rfl
theorem laws_eqInt64SS.ok (N : Nat) : ConOk Try.prog 21 [.one, .one] (laws_eqInt64SS.con N) := by
  refine conOk_mk (g := laws_eqInt64SS.cfg N) (N := N) (res := [(false, .imm)]) tys_ok (laws_eqInt64SS.cons N) mixed Try.func21 (laws_eqInt64SS.ls N) rfl rfl ?_
  intro ds R k y h
  cases ds with
  | nil => exact none_some h
  | cons d0 ds =>
  cases ds with
  | nil => exact none_some h
  | cons d1 ds =>
  cases ds with
  | cons _ _ => exact none_some h
  | nil =>
  have h0 : (castDm (.sl 23 (.sl 2 (.int .i64))) .imm d0 fun x0 => castDm (.sl 23 (.sl 2 (.int .i64))) .imm d1 fun x1 => bindO (laws_eqInt64SS N x0 x1) fun r => k [⟨.bool, .imm, r⟩] []) = some y := h
  clear h
  obtain ⟨x0, rfl, h1⟩ := castDm_eq h0
  obtain ⟨x1, rfl, h2⟩ := castDm_eq h1
  exact con_fin (laws_eqInt64SS.b N x0 x1) h2
def laws_markInt64S.sk2 : Skel := ⟨[.ov 0 [], .pv (.int .i64), .dead, .dead, .dead, .pv (.int .i64), .dead, .dead, .dead, .dead, .dead, .dead, .dead, .dead, .dead, .dead, .dead, .dead, .dead], [⟨0, (.sl 2 (.int .i64)), (.own .imm), false, true⟩]⟩
def laws_markInt64S.xs2 : List XS := [⟨.exit 0, [1], ⟨[.dead, .pv (.int .i64), .dead, .dead, .dead, .dead, .dead, .dead, .dead, .dead, .dead, .dead, .dead, .dead, .dead, .dead, .dead, .dead, .dead], [⟨0, (.sl 2 (.int .i64)), (.own .imm), false, true⟩]⟩⟩]
noncomputable def laws_markInt64S.con (N : Nat) : Con := { modes := [.iov, .v], ptrs := [false], fn := fun ds k => match ds with | [d0, d1] => castDm (.sl 2 (.int .i64)) (.own .imm) d0 fun x0 => castDm (.int .i64) .imm d1 fun x1 => bindO (laws_markInt64S N x0 x1) fun r => k [⟨(.int .i64), .imm, r.1⟩] [⟨(.sl 2 (.int .i64)), (.own .imm), r.2⟩] | _ => none }
noncomputable def laws_markInt64S.cfg (N : Nat) : Cfg := { ty := tys, keep := [], flt := [], elm := [(22, (.own (.own .imm))), (23, (.own .imm)), (32, (.own .imm)), (35, (.own .imm)), (42, (.own .imm)), (47, (.pr (.own (.own .imm)) (.pr .imm (.pr (.own .imm) .imm)))), (48, (.pr (.own (.own .imm)) (.pr .imm (.pr (.own .imm) .imm)))), (57, (.pr (.pr (.own (.own .imm)) (.pr .imm (.pr (.own .imm) .imm))) (.pr (.own .imm) .imm))), (58, (.pr (.pr (.own (.own .imm)) (.pr .imm (.pr (.own .imm) .imm))) (.pr (.own .imm) .imm))), (62, (.pr (.own .imm) .imm)), (63, (.pr (.own .imm) .imm)), (70, (.pr (.own (.own .imm)) .imm)), (71, (.pr (.own (.own .imm)) .imm)), (73, (.pr (.own (.own .imm)) .imm)), (86, (.pr (.pr (.own .imm) .imm) .imm)), (87, (.pr (.pr (.own .imm) .imm) .imm)), (92, (.own (.pr (.own .imm) .imm))), (93, (.pr (.own (.pr (.own .imm) .imm)) (.pr (.own (.pr (.own .imm) .imm)) .imm))), (94, (.pr (.own (.pr (.own .imm) .imm)) (.pr (.own (.pr (.own .imm) .imm)) .imm))), (95, (.pr (.pr (.own (.pr (.own .imm) .imm)) (.pr (.own (.pr (.own .imm) .imm)) .imm)) (.pr (.pr (.own .imm) .imm) .imm))), (96, (.pr (.pr (.own (.pr (.own .imm) .imm)) (.pr (.own (.pr (.own .imm) .imm)) .imm)) (.pr (.pr (.own .imm) .imm) .imm))), (99, (.own .imm)), (134, (.own .imm)), (137, (.own (.pr (.pr (.own .imm) .imm) .imm))), (138, (.pr .imm (.pr .imm (.pr .imm (.pr (.own (.pr (.pr (.own .imm) .imm) .imm)) (.pr .imm (.pr (.own .imm) .imm))))))), (139, (.pr .imm (.pr .imm (.pr .imm (.pr (.own (.pr (.pr (.own .imm) .imm) .imm)) (.pr .imm (.pr (.own .imm) .imm))))))), (141, (.pr (.pr (.own .imm) .imm) (.pr (.own .imm) .imm))), (142, (.pr (.pr (.own .imm) .imm) (.pr (.own .imm) .imm))), (148, (.pr (.own .imm) .imm)), (149, (.pr (.own .imm) .imm)), (168, (.own (.own (.pr (.own .imm) .imm)))), (169, (.pr .imm (.pr (.own (.own (.pr (.own .imm) .imm))) .imm))), (170, (.pr .imm (.pr (.own (.own (.pr (.own .imm) .imm))) .imm))), (190, (.pr (.own .imm) .imm)), (191, (.pr (.own .imm) .imm)), (192, (.pr (.pr (.own .imm) .imm) .imm)), (193, (.pr (.pr (.own .imm) .imm) .imm)), (194, (.own (.pr (.own .imm) .imm)))], live := [(2, [0, 1, 5])], ord := [], con := [], loops := [(2, loopCon N laws_markInt64S.sk2 laws_markInt64S.xs2 (fun {R} => laws_markInt64S.l2 (R := R) N))], joins := [] }
theorem laws_markInt64S.cons (N : Nat) : ConsOk Try.prog (laws_markInt64S.cfg N).con := consOk_nil
theorem laws_markInt64S.h2 {R : Type} (N : Nat) (d : laws_markInt64S.sk2.D) (kn : laws_markInt64S.sk2.D → Option R) (kx : XD laws_markInt64S.xs2 → Option R) : roundK (laws_markInt64S.cfg N) N (nthLoop (fnBody Try.f23) 0) laws_markInt64S.sk2 laws_markInt64S.xs2 d kn kx = laws_markInt64S.l2 N d kn kx := by kernel_rfl
theorem laws_markInt64S.i2 (N : Nat) : LoopsOk Try.prog (laws_markInt64S.cfg N) (nthLoop (fnBody Try.f23) 0) := loopsL (l := []) (by kernel_rfl) trivial
theorem laws_markInt64S.o2 (N : Nat) : LoopOk Try.prog (nthLoop (fnBody Try.f23) 0) (loopCon N laws_markInt64S.sk2 laws_markInt64S.xs2 (fun {R} => laws_markInt64S.l2 (R := R) N)) := loop_ok (g := laws_markInt64S.cfg N) tys_ok (laws_markInt64S.cons N) mixed (laws_markInt64S.i2 N) (fun d kn kx => laws_markInt64S.h2 N d kn kx)
theorem laws_markInt64S.ls (N : Nat) : LoopsOk Try.prog (laws_markInt64S.cfg N) (fnBody Try.f23) := loopsL (l := [nthLoop (fnBody Try.f23) 0]) (by kernel_rfl) ⟨loopOne (L0 := loopCon N laws_markInt64S.sk2 laws_markInt64S.xs2 (fun {R} => laws_markInt64S.l2 (R := R) N)) (id := 2) (by kernel_rfl) (by kernel_rfl) (laws_markInt64S.o2 N), trivial⟩
theorem laws_markInt64S.q2 {R R' : Type} {N n : Nat} {d} {k} {g : R → Option R'} : bindF (loopP (laws_markInt64S.l2 N) n d k) g = loopP (laws_markInt64S.l2 N) n d fun e => bindF (k e) g := bindF_loopP (fun d kn kx => by simp only [laws_markInt64S.l2, bindF_ifB, bindF_bindO, bindF_pure, bindF_none, bindF_onSum]) n d k
theorem laws_markInt64S.b (N : Nat) (x0 : den (.sl 2 (.int .i64))) (x1 : den (.int .i64)) : body (laws_markInt64S.cfg N) N Try.f23 [.one, .one] [.iov, .v] [(false, .imm)] [⟨(.sl 2 (.int .i64)), (.own .imm), x0⟩, ⟨(.int .i64), .imm, x1⟩] (fun r i => some (r, i)) = bindO (laws_markInt64S N x0 x1) fun r => some ([⟨(.int .i64), .imm, r.1⟩], [⟨(.sl 2 (.int .i64)), (.own .imm), r.2⟩]) := by
  show _ = bindF _ _
  conv => rhs; simp only [laws_markInt64S, bindF_ifB, bindF_bindO, bindF_pure, bindF_none, bindF_onSum, laws_markInt64S.q2]
  kernel_rfl
theorem laws_markInt64S.ok (N : Nat) : ConOk Try.prog 23 [.one, .one] (laws_markInt64S.con N) := by
  refine conOk_mk (g := laws_markInt64S.cfg N) (N := N) (res := [(false, .imm)]) tys_ok (laws_markInt64S.cons N) mixed Try.func23 (laws_markInt64S.ls N) rfl rfl ?_
  intro ds R k y h
  cases ds with
  | nil => exact none_some h
  | cons d0 ds =>
  cases ds with
  | nil => exact none_some h
  | cons d1 ds =>
  cases ds with
  | cons _ _ => exact none_some h
  | nil =>
  have h0 : (castDm (.sl 2 (.int .i64)) (.own .imm) d0 fun x0 => castDm (.int .i64) .imm d1 fun x1 => bindO (laws_markInt64S N x0 x1) fun r => k [⟨(.int .i64), .imm, r.1⟩] [⟨(.sl 2 (.int .i64)), (.own .imm), r.2⟩]) = some y := h
  clear h
  obtain ⟨x0, rfl, h1⟩ := castDm_eq h0
  obtain ⟨x1, rfl, h2⟩ := castDm_eq h1
  exact con_fin (laws_markInt64S.b N x0 x1) h2
def laws_markInt64SS.sk2 : Skel := ⟨[.ov 0 [], .pv (.int .i64), .dead, .dead, .dead, .pv (.int .i64), .dead, .dead, .dead, .dead, .dead, .dead, .dead, .dead, .dead, .dead, .dead, .dead, .dead], [⟨0, (.sl 23 (.sl 2 (.int .i64))), (.own (.own .imm)), false, true⟩]⟩
def laws_markInt64SS.xs2 : List XS := [⟨.exit 0, [1], ⟨[.dead, .pv (.int .i64), .dead, .dead, .dead, .dead, .dead, .dead, .dead, .dead, .dead, .dead, .dead, .dead, .dead, .dead, .dead, .dead, .dead], [⟨0, (.sl 23 (.sl 2 (.int .i64))), (.own (.own .imm)), false, true⟩]⟩⟩]
noncomputable def laws_markInt64SS.con (N : Nat) : Con := { modes := [.iov, .v], ptrs := [false], fn := fun ds k => match ds with | [d0, d1] => castDm (.sl 23 (.sl 2 (.int .i64))) (.own (.own .imm)) d0 fun x0 => castDm (.int .i64) .imm d1 fun x1 => bindO (laws_markInt64SS N x0 x1) fun r => k [⟨(.int .i64), .imm, r.1⟩] [⟨(.sl 23 (.sl 2 (.int .i64))), (.own (.own .imm)), r.2⟩] | _ => none }
noncomputable def laws_markInt64SS.cfg (N : Nat) : Cfg := { ty := tys, keep := [17], flt := [], elm := [(22, (.own (.own .imm))), (23, (.own .imm)), (32, (.own .imm)), (35, (.own .imm)), (42, (.own .imm)), (47, (.pr (.own (.own .imm)) (.pr .imm (.pr (.own .imm) .imm)))), (48, (.pr (.own (.own .imm)) (.pr .imm (.pr (.own .imm) .imm)))), (57, (.pr (.pr (.own (.own .imm)) (.pr .imm (.pr (.own .imm) .imm))) (.pr (.own .imm) .imm))), (58, (.pr (.pr (.own (.own .imm)) (.pr .imm (.pr (.own .imm) .imm))) (.pr (.own .imm) .imm))), (62, (.pr (.own .imm) .imm)), (63, (.pr (.own .imm) .imm)), (70, (.pr (.own (.own .imm)) .imm)), (71, (.pr (.own (.own .imm)) .imm)), (73, (.pr (.own (.own .imm)) .imm)), (86, (.pr (.pr (.own .imm) .imm) .imm)), (87, (.pr (.pr (.own .imm) .imm) .imm)), (92, (.own (.pr (.own .imm) .imm))), (93, (.pr (.own (.pr (.own .imm) .imm)) (.pr (.own (.pr (.own .imm) .imm)) .imm))), (94, (.pr (.own (.pr (.own .imm) .imm)) (.pr (.own (.pr (.own .imm) .imm)) .imm))), (95, (.pr (.pr (.own (.pr (.own .imm) .imm)) (.pr (.own (.pr (.own .imm) .imm)) .imm)) (.pr (.pr (.own .imm) .imm) .imm))), (96, (.pr (.pr (.own (.pr (.own .imm) .imm)) (.pr (.own (.pr (.own .imm) .imm)) .imm)) (.pr (.pr (.own .imm) .imm) .imm))), (99, (.own .imm)), (134, (.own .imm)), (137, (.own (.pr (.pr (.own .imm) .imm) .imm))), (138, (.pr .imm (.pr .imm (.pr .imm (.pr (.own (.pr (.pr (.own .imm) .imm) .imm)) (.pr .imm (.pr (.own .imm) .imm))))))), (139, (.pr .imm (.pr .imm (.pr .imm (.pr (.own (.pr (.pr (.own .imm) .imm) .imm)) (.pr .imm (.pr (.own .imm) .imm))))))), (141, (.pr (.pr (.own .imm) .imm) (.pr (.own .imm) .imm))), (142, (.pr (.pr (.own .imm) .imm) (.pr (.own .imm) .imm))), (148, (.pr (.own .imm) .imm)), (149, (.pr (.own .imm) .imm)), (168, (.own (.own (.pr (.own .imm) .imm)))), (169, (.pr .imm (.pr (.own (.own (.pr (.own .imm) .imm))) .imm))), (170, (.pr .imm (.pr (.own (.own (.pr (.own .imm) .imm))) .imm))), (190, (.pr (.own .imm) .imm)), (191, (.pr (.own .imm) .imm)), (192, (.pr (.pr (.own .imm) .imm) .imm)), (193, (.pr (.pr (.own .imm) .imm) .imm)), (194, (.own (.pr (.own .imm) .imm)))], live := [(2, [0, 1, 5])], ord := [], con := [((23, [.one, .one]), laws_markInt64S.con N)], loops := [(2, loopCon N laws_markInt64SS.sk2 laws_markInt64SS.xs2 (fun {R} => laws_markInt64SS.l2 (R := R) N))], joins := [] }
theorem laws_markInt64SS.cons (N : Nat) : ConsOk Try.prog (laws_markInt64SS.cfg N).con := (consOk_cons (hb23) (laws_markInt64S.ok N) consOk_nil)
theorem laws_markInt64SS.h2 {R : Type} (N : Nat) (d : laws_markInt64SS.sk2.D) (kn : laws_markInt64SS.sk2.D → Option R) (kx : XD laws_markInt64SS.xs2 → Option R) : roundK (laws_markInt64SS.cfg N) N (nthLoop (fnBody Try.f22) 0) laws_markInt64SS.sk2 laws_markInt64SS.xs2 d kn kx = laws_markInt64SS.l2 N d kn kx := by kernel_rfl
theorem laws_markInt64SS.i2 (N : Nat) : LoopsOk Try.prog (laws_markInt64SS.cfg N) (nthLoop (fnBody Try.f22) 0) := loopsL (l := []) (by kernel_rfl) trivial
theorem laws_markInt64SS.o2 (N : Nat) : LoopOk Try.prog (nthLoop (fnBody Try.f22) 0) (loopCon N laws_markInt64SS.sk2 laws_markInt64SS.xs2 (fun {R} => laws_markInt64SS.l2 (R := R) N)) := loop_ok (g := laws_markInt64SS.cfg N) tys_ok (laws_markInt64SS.cons N) mixed (laws_markInt64SS.i2 N) (fun d kn kx => laws_markInt64SS.h2 N d kn kx)
theorem laws_markInt64SS.ls (N : Nat) : LoopsOk Try.prog (laws_markInt64SS.cfg N) (fnBody Try.f22) := loopsL (l := [nthLoop (fnBody Try.f22) 0]) (by kernel_rfl) ⟨loopOne (L0 := loopCon N laws_markInt64SS.sk2 laws_markInt64SS.xs2 (fun {R} => laws_markInt64SS.l2 (R := R) N)) (id := 2) (by kernel_rfl) (by kernel_rfl) (laws_markInt64SS.o2 N), trivial⟩
theorem laws_markInt64SS.q2 {R R' : Type} {N n : Nat} {d} {k} {g : R → Option R'} : bindF (loopP (laws_markInt64SS.l2 N) n d k) g = loopP (laws_markInt64SS.l2 N) n d fun e => bindF (k e) g := bindF_loopP (fun d kn kx => by simp only [laws_markInt64SS.l2, bindF_ifB, bindF_bindO, bindF_pure, bindF_none, bindF_onSum]) n d k
theorem laws_markInt64SS.b (N : Nat) (x0 : den (.sl 23 (.sl 2 (.int .i64)))) (x1 : den (.int .i64)) : body (laws_markInt64SS.cfg N) N Try.f22 [.one, .one] [.iov, .v] [(false, .imm)] [⟨(.sl 23 (.sl 2 (.int .i64))), (.own (.own .imm)), x0⟩, ⟨(.int .i64), .imm, x1⟩] (fun r i => some (r, i)) = bindO (laws_markInt64SS N x0 x1) fun r => some ([⟨(.int .i64), .imm, r.1⟩], [⟨(.sl 23 (.sl 2 (.int .i64))), (.own (.own .imm)), r.2⟩]) := by
  show _ = bindF _ _
  conv => rhs; simp only [laws_markInt64SS, bindF_ifB, bindF_bindO, bindF_pure, bindF_none, bindF_onSum, laws_markInt64SS.q2]
  kernel_rfl
theorem laws_markInt64SS.ok (N : Nat) : ConOk Try.prog 22 [.one, .one] (laws_markInt64SS.con N) := by
  refine conOk_mk (g := laws_markInt64SS.cfg N) (N := N) (res := [(false, .imm)]) tys_ok (laws_markInt64SS.cons N) mixed Try.func22 (laws_markInt64SS.ls N) rfl rfl ?_
  intro ds R k y h
  cases ds with
  | nil => exact none_some h
  | cons d0 ds =>
  cases ds with
  | nil => exact none_some h
  | cons d1 ds =>
  cases ds with
  | cons _ _ => exact none_some h
  | nil =>
  have h0 : (castDm (.sl 23 (.sl 2 (.int .i64))) (.own (.own .imm)) d0 fun x0 => castDm (.int .i64) .imm d1 fun x1 => bindO (laws_markInt64SS N x0 x1) fun r => k [⟨(.int .i64), .imm, r.1⟩] [⟨(.sl 23 (.sl 2 (.int .i64))), (.own (.own .imm)), r.2⟩]) = some y := h
  clear h
  obtain ⟨x0, rfl, h1⟩ := castDm_eq h0
  obtain ⟨x1, rfl, h2⟩ := castDm_eq h1
  exact con_fin (laws_markInt64SS.b N x0 x1) h2
def laws_heldInt64S.sk2 : Skel := ⟨[.pv (.sl 2 (.int .i64)), .pv (.int .i64), .dead, .dead, .dead, .pv (.int .i64), .dead, .dead, .dead, .dead, .dead, .dead, .dead, .dead, .dead, .dead, .dead, .dead, .dead, .dead, .dead], []⟩
def laws_heldInt64S.xs2 : List XS := [⟨.exit 0, [1], ⟨[.dead, .pv (.int .i64), .dead, .dead, .dead, .dead, .dead, .dead, .dead, .dead, .dead, .dead, .dead, .dead, .dead, .dead, .dead, .dead, .dead, .dead, .dead], []⟩⟩, ⟨.ret, [4], ⟨[.dead, .dead, .dead, .dead, .pv (.int .i64), .dead, .dead, .dead, .dead, .dead, .dead, .dead, .dead, .dead, .dead, .dead, .dead, .dead, .dead, .dead, .dead], []⟩⟩]
noncomputable def laws_heldInt64S.con (N : Nat) : Con := { modes := [.v, .v], ptrs := [false], fn := fun ds k => match ds with | [d0, d1] => castDm (.sl 2 (.int .i64)) .imm d0 fun x0 => castDm (.int .i64) .imm d1 fun x1 => bindO (laws_heldInt64S N x0 x1) fun r => k [⟨(.int .i64), .imm, r⟩] [] | _ => none }
noncomputable def laws_heldInt64S.cfg (N : Nat) : Cfg := { ty := tys, keep := [], flt := [], elm := [(22, (.own (.own .imm))), (23, (.own .imm)), (32, (.own .imm)), (35, (.own .imm)), (42, (.own .imm)), (47, (.pr (.own (.own .imm)) (.pr .imm (.pr (.own .imm) .imm)))), (48, (.pr (.own (.own .imm)) (.pr .imm (.pr (.own .imm) .imm)))), (57, (.pr (.pr (.own (.own .imm)) (.pr .imm (.pr (.own .imm) .imm))) (.pr (.own .imm) .imm))), (58, (.pr (.pr (.own (.own .imm)) (.pr .imm (.pr (.own .imm) .imm))) (.pr (.own .imm) .imm))), (62, (.pr (.own .imm) .imm)), (63, (.pr (.own .imm) .imm)), (70, (.pr (.own (.own .imm)) .imm)), (71, (.pr (.own (.own .imm)) .imm)), (73, (.pr (.own (.own .imm)) .imm)), (86, (.pr (.pr (.own .imm) .imm) .imm)), (87, (.pr (.pr (.own .imm) .imm) .imm)), (92, (.own (.pr (.own .imm) .imm))), (93, (.pr (.own (.pr (.own .imm) .imm)) (.pr (.own (.pr (.own .imm) .imm)) .imm))), (94, (.pr (.own (.pr (.own .imm) .imm)) (.pr (.own (.pr (.own .imm) .imm)) .imm))), (95, (.pr (.pr (.own (.pr (.own .imm) .imm)) (.pr (.own (.pr (.own .imm) .imm)) .imm)) (.pr (.pr (.own .imm) .imm) .imm))), (96, (.pr (.pr (.own (.pr (.own .imm) .imm)) (.pr (.own (.pr (.own .imm) .imm)) .imm)) (.pr (.pr (.own .imm) .imm) .imm))), (99, (.own .imm)), (134, (.own .imm)), (137, (.own (.pr (.pr (.own .imm) .imm) .imm))), (138, (.pr .imm (.pr .imm (.pr .imm (.pr (.own (.pr (.pr (.own .imm) .imm) .imm)) (.pr .imm (.pr (.own .imm) .imm))))))), (139, (.pr .imm (.pr .imm (.pr .imm (.pr (.own (.pr (.pr (.own .imm) .imm) .imm)) (.pr .imm (.pr (.own .imm) .imm))))))), (141, (.pr (.pr (.own .imm) .imm) (.pr (.own .imm) .imm))), (142, (.pr (.pr (.own .imm) .imm) (.pr (.own .imm) .imm))), (148, (.pr (.own .imm) .imm)), (149, (.pr (.own .imm) .imm)), (168, (.own (.own (.pr (.own .imm) .imm)))), (169, (.pr .imm (.pr (.own (.own (.pr (.own .imm) .imm))) .imm))), (170, (.pr .imm (.pr (.own (.own (.pr (.own .imm) .imm))) .imm))), (190, (.pr (.own .imm) .imm)), (191, (.pr (.own .imm) .imm)), (192, (.pr (.pr (.own .imm) .imm) .imm)), (193, (.pr (.pr (.own .imm) .imm) .imm)), (194, (.own (.pr (.own .imm) .imm)))], live := [(2, [0, 1, 5])], ord := [], con := [], loops := [(2, loopCon N laws_heldInt64S.sk2 laws_heldInt64S.xs2 (fun {R} => laws_heldInt64S.l2 (R := R) N))], joins := [] }
theorem laws_heldInt64S.cons (N : Nat) : ConsOk Try.prog (laws_heldInt64S.cfg N).con := consOk_nil
theorem laws_heldInt64S.h2 {R : Type} (N : Nat) (d : laws_heldInt64S.sk2.D) (kn : laws_heldInt64S.sk2.D → Option R) (kx : XD laws_heldInt64S.xs2 → Option R) : roundK (laws_heldInt64S.cfg N) N (nthLoop (fnBody Try.f24) 0) laws_heldInt64S.sk2 laws_heldInt64S.xs2 d kn kx = laws_heldInt64S.l2 N d kn kx := by kernel_rfl
theorem laws_heldInt64S.i2 (N : Nat) : LoopsOk Try.prog (laws_heldInt64S.cfg N) (nthLoop (fnBody Try.f24) 0) := loopsL (l := []) (by kernel_rfl) trivial
theorem laws_heldInt64S.o2 (N : Nat) : LoopOk Try.prog (nthLoop (fnBody Try.f24) 0) (loopCon N laws_heldInt64S.sk2 laws_heldInt64S.xs2 (fun {R} => laws_heldInt64S.l2 (R := R) N)) := loop_ok (g := laws_heldInt64S.cfg N) tys_ok (laws_heldInt64S.cons N) mixed (laws_heldInt64S.i2 N) (fun d kn kx => laws_heldInt64S.h2 N d kn kx)
theorem laws_heldInt64S.ls (N : Nat) : LoopsOk Try.prog (laws_heldInt64S.cfg N) (fnBody Try.f24) := loopsL (l := [nthLoop (fnBody Try.f24) 0]) (by kernel_rfl) ⟨loopOne (L0 := loopCon N laws_heldInt64S.sk2 laws_heldInt64S.xs2 (fun {R} => laws_heldInt64S.l2 (R := R) N)) (id := 2) (by kernel_rfl) (by kernel_rfl) (laws_heldInt64S.o2 N), trivial⟩
theorem laws_heldInt64S.q2 {R R' : Type} {N n : Nat} {d} {k} {g : R → Option R'} : bindF (loopP (laws_heldInt64S.l2 N) n d k) g = loopP (laws_heldInt64S.l2 N) n d fun e => bindF (k e) g := bindF_loopP (fun d kn kx => by simp only [laws_heldInt64S.l2, bindF_ifB, bindF_bindO, bindF_pure, bindF_none, bindF_onSum]) n d k
theorem laws_heldInt64S.b (N : Nat) (x0 : den (.sl 2 (.int .i64))) (x1 : den (.int .i64)) : body (laws_heldInt64S.cfg N) N Try.f24 [.one, .one] [.v, .v] [(false, .imm)] [⟨(.sl 2 (.int .i64)), .imm, x0⟩, ⟨(.int .i64), .imm, x1⟩] (fun r i => some (r, i)) = bindO (laws_heldInt64S N x0 x1) fun r => some ([⟨(.int .i64), .imm, r⟩], []) := by
  show _ = bindF _ _
  conv => rhs; simp only [laws_heldInt64S, bindF_ifB, bindF_bindO, bindF_pure, bindF_none, bindF_onSum, laws_heldInt64S.q2]
  kernel_rfl
theorem laws_heldInt64S.ok (N : Nat) : ConOk Try.prog 24 [.one, .one] (laws_heldInt64S.con N) := by
  refine conOk_mk (g := laws_heldInt64S.cfg N) (N := N) (res := [(false, .imm)]) tys_ok (laws_heldInt64S.cons N) mixed Try.func24 (laws_heldInt64S.ls N) rfl rfl ?_
  intro ds R k y h
  cases ds with
  | nil => exact none_some h
  | cons d0 ds =>
  cases ds with
  | nil => exact none_some h
  | cons d1 ds =>
  cases ds with
  | cons _ _ => exact none_some h
  | nil =>
  have h0 : (castDm (.sl 2 (.int .i64)) .imm d0 fun x0 => castDm (.int .i64) .imm d1 fun x1 => bindO (laws_heldInt64S N x0 x1) fun r => k [⟨(.int .i64), .imm, r⟩] []) = some y := h
  clear h
  obtain ⟨x0, rfl, h1⟩ := castDm_eq h0
  obtain ⟨x1, rfl, h2⟩ := castDm_eq h1
  exact con_fin (laws_heldInt64S.b N x0 x1) h2
noncomputable def laws_FnExactCompCommon.con (N : Nat) : Con := { modes := [.v, .v], ptrs := [false], fn := fun ds k => match ds with | [d0, d1] => castDm (.sl 23 (.sl 2 (.int .i64))) .imm d0 fun x0 => castDm (.sl 2 (.int .i64)) .imm d1 fun x1 => bindO (laws_FnExactCompCommon N x0 x1) fun r => k [⟨.bool, .imm, r⟩] [] | _ => none }
noncomputable def laws_FnExactCompCommon.cfg (N : Nat) : Cfg := { ty := tys, keep := [19, 23, 25, 26, 28, 30, 33, 36, 40, 41, 45, 46, 50, 53, 59, 64, 67, 74, 76, 77, 80, 84], flt := [], elm := [(22, (.own (.own .imm))), (23, (.own .imm)), (32, (.own .imm)), (35, (.own .imm)), (42, (.own .imm)), (47, (.pr (.own (.own .imm)) (.pr .imm (.pr (.own .imm) .imm)))), (48, (.pr (.own (.own .imm)) (.pr .imm (.pr (.own .imm) .imm)))), (57, (.pr (.pr (.own (.own .imm)) (.pr .imm (.pr (.own .imm) .imm))) (.pr (.own .imm) .imm))), (58, (.pr (.pr (.own (.own .imm)) (.pr .imm (.pr (.own .imm) .imm))) (.pr (.own .imm) .imm))), (62, (.pr (.own .imm) .imm)), (63, (.pr (.own .imm) .imm)), (70, (.pr (.own (.own .imm)) .imm)), (71, (.pr (.own (.own .imm)) .imm)), (73, (.pr (.own (.own .imm)) .imm)), (86, (.pr (.pr (.own .imm) .imm) .imm)), (87, (.pr (.pr (.own .imm) .imm) .imm)), (92, (.own (.pr (.own .imm) .imm))), (93, (.pr (.own (.pr (.own .imm) .imm)) (.pr (.own (.pr (.own .imm) .imm)) .imm))), (94, (.pr (.own (.pr (.own .imm) .imm)) (.pr (.own (.pr (.own .imm) .imm)) .imm))), (95, (.pr (.pr (.own (.pr (.own .imm) .imm)) (.pr (.own (.pr (.own .imm) .imm)) .imm)) (.pr (.pr (.own .imm) .imm) .imm))), (96, (.pr (.pr (.own (.pr (.own .imm) .imm)) (.pr (.own (.pr (.own .imm) .imm)) .imm)) (.pr (.pr (.own .imm) .imm) .imm))), (99, (.own .imm)), (134, (.own .imm)), (137, (.own (.pr (.pr (.own .imm) .imm) .imm))), (138, (.pr .imm (.pr .imm (.pr .imm (.pr (.own (.pr (.pr (.own .imm) .imm) .imm)) (.pr .imm (.pr (.own .imm) .imm))))))), (139, (.pr .imm (.pr .imm (.pr .imm (.pr (.own (.pr (.pr (.own .imm) .imm) .imm)) (.pr .imm (.pr (.own .imm) .imm))))))), (141, (.pr (.pr (.own .imm) .imm) (.pr (.own .imm) .imm))), (142, (.pr (.pr (.own .imm) .imm) (.pr (.own .imm) .imm))), (148, (.pr (.own .imm) .imm)), (149, (.pr (.own .imm) .imm)), (168, (.own (.own (.pr (.own .imm) .imm)))), (169, (.pr .imm (.pr (.own (.own (.pr (.own .imm) .imm))) .imm))), (170, (.pr .imm (.pr (.own (.own (.pr (.own .imm) .imm))) .imm))), (190, (.pr (.own .imm) .imm)), (191, (.pr (.own .imm) .imm)), (192, (.pr (.pr (.own .imm) .imm) .imm)), (193, (.pr (.pr (.own .imm) .imm) .imm)), (194, (.own (.pr (.own .imm) .imm)))], live := [], ord := [], con := [((15, [.one, .one]), laws_szInt64SS.con N), ((17, [.one]), laws_toInt64SS.con N), ((18, [.one]), laws_toInt64S.con N), ((16, [.one, .one]), spec_CompCommon.con N), ((19, [.one, .one]), impl_CompCommon.con N), ((20, [.one, .one]), laws_eqInt64S.con N), ((21, [.one, .one]), laws_eqInt64SS.con N), ((22, [.one, .one]), laws_markInt64SS.con N), ((23, [.one, .one]), laws_markInt64S.con N), ((24, [.one, .one]), laws_heldInt64S.con N)], loops := [], joins := [] }
theorem laws_FnExactCompCommon.cons (N : Nat) : ConsOk Try.prog (laws_FnExactCompCommon.cfg N).con := (consOk_cons (hb15) (laws_szInt64SS.ok N) (consOk_cons (hb17) (laws_toInt64SS.ok N) (consOk_cons (hb18) (laws_toInt64S.ok N) (consOk_cons (hb16) (spec_CompCommon.ok N) (consOk_cons (hb19) (impl_CompCommon.ok N) (consOk_cons (hb20) (laws_eqInt64S.ok N) (consOk_cons (hb21) (laws_eqInt64SS.ok N) (consOk_cons (hb22) (laws_markInt64SS.ok N) (consOk_cons (hb23) (laws_markInt64S.ok N) (consOk_cons (hb24) (laws_heldInt64S.ok N) consOk_nil))))))))))
theorem laws_FnExactCompCommon.ls (N : Nat) : LoopsOk Try.prog (laws_FnExactCompCommon.cfg N) (fnBody Try.f3) := loopsL (l := []) (by kernel_rfl) trivial
theorem laws_FnExactCompCommon.b (N : Nat) (x0 : den (.sl 23 (.sl 2 (.int .i64)))) (x1 : den (.sl 2 (.int .i64))) : body (laws_FnExactCompCommon.cfg N) N Try.f3 [.one, .one] [.v, .v] [(false, .imm)] [⟨(.sl 23 (.sl 2 (.int .i64))), .imm, x0⟩, ⟨(.sl 2 (.int .i64)), .imm, x1⟩] (fun r i => some (r, i)) = bindO (laws_FnExactCompCommon N x0 x1) fun r => some ([⟨.bool, .imm, r⟩], []) := by
  show _ = bindF _ _
  conv => rhs; simp only [laws_FnExactCompCommon, bindF_ifB, bindF_bindO, bindF_pure, bindF_none, bindF_onSum]
  kernel_rfl
theorem laws_FnExactCompCommon.ok (N : Nat) : ConOk Try.prog 3 [.one, .one] (laws_FnExactCompCommon.con N) := by
  refine conOk_mk (g := laws_FnExactCompCommon.cfg N) (N := N) (res := [(false, .imm)]) tys_ok (laws_FnExactCompCommon.cons N) mixed Try.func3 (laws_FnExactCompCommon.ls N) rfl rfl ?_
  intro ds R k y h
  cases ds with
  | nil => exact none_some h
  | cons d0 ds =>
  cases ds with
  | nil => exact none_some h
  | cons d1 ds =>
  cases ds with
  | cons _ _ => exact none_some h
  | nil =>
  have h0 : (castDm (.sl 23 (.sl 2 (.int .i64))) .imm d0 fun x0 => castDm (.sl 2 (.int .i64)) .imm d1 fun x1 => bindO (laws_FnExactCompCommon N x0 x1) fun r => k [⟨.bool, .imm, r⟩] []) = some y := h
  clear h
  obtain ⟨x0, rfl, h1⟩ := castDm_eq h0
  obtain ⟨x1, rfl, h2⟩ := castDm_eq h1
  exact con_fin (laws_FnExactCompCommon.b N x0 x1) h2
end Go.AE.F
