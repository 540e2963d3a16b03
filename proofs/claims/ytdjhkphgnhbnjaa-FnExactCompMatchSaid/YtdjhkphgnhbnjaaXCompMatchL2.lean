/- The printed functions are what the program comes to: contracts. -/
import Derived.Test.YtdjhkphgnhbnjaaXCompMatchL1
namespace Go.AE.F
open Go.AE Go.Proofs
set_option maxRecDepth 100000
def slices_IndexFunc_Sint64_int64__impl_PointsRight_c1.sk2 : Skel := ⟨[.pv (.sl 2 (.int .i64)), .fn 61 [], .dead, .dead, .dead, .dead, .dead, .pv (.int .i64), .pv (.int .i64), .dead, .dead, .dead, .dead, .dead, .dead, .dead, .dead, .dead, .dead], []⟩
def slices_IndexFunc_Sint64_int64__impl_PointsRight_c1.xs2 : List XS := [⟨.exit 0, [], ⟨[.dead, .dead, .dead, .dead, .dead, .dead, .dead, .dead, .dead, .dead, .dead, .dead, .dead, .dead, .dead, .dead, .dead, .dead, .dead], []⟩⟩, ⟨.ret, [4], ⟨[.dead, .dead, .dead, .dead, .pv (.int .i64), .dead, .dead, .dead, .dead, .dead, .dead, .dead, .dead, .dead, .dead, .dead, .dead, .dead, .dead], []⟩⟩]
noncomputable def slices_IndexFunc_Sint64_int64__impl_PointsRight_c1.con (N : Nat) : Con := { modes := [.v], ptrs := [false], fn := fun ds k => match ds with | [d0] => castDm (.sl 2 (.int .i64)) .imm d0 fun x0 => bindO (slices_IndexFunc_Sint64_int64__impl_PointsRight_c1 N x0) fun r => k [⟨(.int .i64), .imm, r⟩] [] | _ => none }
noncomputable def slices_IndexFunc_Sint64_int64__impl_PointsRight_c1.cfg (N : Nat) : Cfg := { ty := tys, keep := [16], flt := [], elm := [(24, (.own (.own .imm))), (29, (.own .imm)), (30, (.pr (.own .imm) .imm)), (31, (.pr (.own .imm) .imm)), (34, (.pr (.own .imm) .imm)), (45, (.own .imm)), (59, (.own .imm))], live := [(2, [0, 1, 7, 8])], ord := [], con := [((61, [.one]), impl_PointsRight_c1.con N)], loops := [(2, loopCon N slices_IndexFunc_Sint64_int64__impl_PointsRight_c1.sk2 slices_IndexFunc_Sint64_int64__impl_PointsRight_c1.xs2 (fun {R} => slices_IndexFunc_Sint64_int64__impl_PointsRight_c1.l2 (R := R) N))], joins := [] }
theorem slices_IndexFunc_Sint64_int64__impl_PointsRight_c1.cons (N : Nat) : ConsOk Try.prog (slices_IndexFunc_Sint64_int64__impl_PointsRight_c1.cfg N).con := (consOk_cons (hb61) (impl_PointsRight_c1.ok N) consOk_nil)
theorem slices_IndexFunc_Sint64_int64__impl_PointsRight_c1.h2 {R : Type} (N : Nat) (d : slices_IndexFunc_Sint64_int64__impl_PointsRight_c1.sk2.D) (kn : slices_IndexFunc_Sint64_int64__impl_PointsRight_c1.sk2.D → Option R) (kx : XD slices_IndexFunc_Sint64_int64__impl_PointsRight_c1.xs2 → Option R) : roundK (slices_IndexFunc_Sint64_int64__impl_PointsRight_c1.cfg N) N (nthLoop (fnBody Try.f52) 0) slices_IndexFunc_Sint64_int64__impl_PointsRight_c1.sk2 slices_IndexFunc_Sint64_int64__impl_PointsRight_c1.xs2 d kn kx = slices_IndexFunc_Sint64_int64__impl_PointsRight_c1.l2 N d kn kx := by kernel_rfl
theorem slices_IndexFunc_Sint64_int64__impl_PointsRight_c1.i2 (N : Nat) : LoopsOk Try.prog (slices_IndexFunc_Sint64_int64__impl_PointsRight_c1.cfg N) (nthLoop (fnBody Try.f52) 0) := loopsL (l := []) (by kernel_rfl) trivial
theorem slices_IndexFunc_Sint64_int64__impl_PointsRight_c1.o2 (N : Nat) : LoopOk Try.prog (nthLoop (fnBody Try.f52) 0) (loopCon N slices_IndexFunc_Sint64_int64__impl_PointsRight_c1.sk2 slices_IndexFunc_Sint64_int64__impl_PointsRight_c1.xs2 (fun {R} => slices_IndexFunc_Sint64_int64__impl_PointsRight_c1.l2 (R := R) N)) := loop_ok (g := slices_IndexFunc_Sint64_int64__impl_PointsRight_c1.cfg N) tys_ok (slices_IndexFunc_Sint64_int64__impl_PointsRight_c1.cons N) mixed (slices_IndexFunc_Sint64_int64__impl_PointsRight_c1.i2 N) (fun d kn kx => slices_IndexFunc_Sint64_int64__impl_PointsRight_c1.h2 N d kn kx)
theorem slices_IndexFunc_Sint64_int64__impl_PointsRight_c1.ls (N : Nat) : LoopsOk Try.prog (slices_IndexFunc_Sint64_int64__impl_PointsRight_c1.cfg N) (fnBody Try.f52) := loopsL (l := [nthLoop (fnBody Try.f52) 0]) (by kernel_rfl) ⟨loopOne (L0 := loopCon N slices_IndexFunc_Sint64_int64__impl_PointsRight_c1.sk2 slices_IndexFunc_Sint64_int64__impl_PointsRight_c1.xs2 (fun {R} => slices_IndexFunc_Sint64_int64__impl_PointsRight_c1.l2 (R := R) N)) (id := 2) (by kernel_rfl) (by kernel_rfl) (slices_IndexFunc_Sint64_int64__impl_PointsRight_c1.o2 N), trivial⟩
theorem slices_IndexFunc_Sint64_int64__impl_PointsRight_c1.q2 {R R' : Type} {N n : Nat} {d} {k} {g : R → Option R'} : bindF (loopP (slices_IndexFunc_Sint64_int64__impl_PointsRight_c1.l2 N) n d k) g = loopP (slices_IndexFunc_Sint64_int64__impl_PointsRight_c1.l2 N) n d fun e => bindF (k e) g := bindF_loopP (fun d kn kx => by simp only [slices_IndexFunc_Sint64_int64__impl_PointsRight_c1.l2, bindF_ifB, bindF_bindO, bindF_pure, bindF_none, bindF_onSum]) n d k
theorem slices_IndexFunc_Sint64_int64__impl_PointsRight_c1.b (N : Nat) (x0 : den (.sl 2 (.int .i64))) : body (slices_IndexFunc_Sint64_int64__impl_PointsRight_c1.cfg N) N Try.f52 [.one, .fn 61 0] [.v] [(false, .imm)] [⟨(.sl 2 (.int .i64)), .imm, x0⟩] (fun r i => some (r, i)) = bindO (slices_IndexFunc_Sint64_int64__impl_PointsRight_c1 N x0) fun r => some ([⟨(.int .i64), .imm, r⟩], []) := by
  show _ = bindF _ _
  conv => rhs; simp only [slices_IndexFunc_Sint64_int64__impl_PointsRight_c1, bindF_ifB, bindF_bindO, bindF_pure, bindF_none, bindF_onSum, slices_IndexFunc_Sint64_int64__impl_PointsRight_c1.q2]
  kernel_rfl
theorem slices_IndexFunc_Sint64_int64__impl_PointsRight_c1.ok (N : Nat) : ConOk Try.prog 52 [.one, .fn 61 0] (slices_IndexFunc_Sint64_int64__impl_PointsRight_c1.con N) := by
  refine conOk_mk (g := slices_IndexFunc_Sint64_int64__impl_PointsRight_c1.cfg N) (N := N) (res := [(false, .imm)]) tys_ok (slices_IndexFunc_Sint64_int64__impl_PointsRight_c1.cons N) mixed Try.func52 (slices_IndexFunc_Sint64_int64__impl_PointsRight_c1.ls N) rfl rfl ?_
  intro ds R k y h
  cases ds with
  | nil => exact none_some h
  | cons d0 ds =>
  cases ds with
  | cons _ _ => exact none_some h
  | nil =>
  have h0 : (castDm (.sl 2 (.int .i64)) .imm d0 fun x0 => bindO (slices_IndexFunc_Sint64_int64__impl_PointsRight_c1 N x0) fun r => k [⟨(.int .i64), .imm, r⟩] []) = some y := h
  clear h
  obtain ⟨x0, rfl, h1⟩ := castDm_eq h0
  exact con_fin (slices_IndexFunc_Sint64_int64__impl_PointsRight_c1.b N x0) h1
noncomputable def slices_ContainsFunc_Sint64_int64__impl_PointsRight_c1.con (N : Nat) : Con := { modes := [.v], ptrs := [false], fn := fun ds k => match ds with | [d0] => castDm (.sl 2 (.int .i64)) .imm d0 fun x0 => bindO (slices_ContainsFunc_Sint64_int64__impl_PointsRight_c1 N x0) fun r => k [⟨.bool, .imm, r⟩] [] | _ => none }
noncomputable def slices_ContainsFunc_Sint64_int64__impl_PointsRight_c1.cfg (N : Nat) : Cfg := { ty := tys, keep := [7], flt := [], elm := [(24, (.own (.own .imm))), (29, (.own .imm)), (30, (.pr (.own .imm) .imm)), (31, (.pr (.own .imm) .imm)), (34, (.pr (.own .imm) .imm)), (45, (.own .imm)), (59, (.own .imm))], live := [], ord := [], con := [((52, [.one, .fn 61 0]), slices_IndexFunc_Sint64_int64__impl_PointsRight_c1.con N)], loops := [], joins := [] }
theorem slices_ContainsFunc_Sint64_int64__impl_PointsRight_c1.cons (N : Nat) : ConsOk Try.prog (slices_ContainsFunc_Sint64_int64__impl_PointsRight_c1.cfg N).con := (consOk_cons (hb52) (slices_IndexFunc_Sint64_int64__impl_PointsRight_c1.ok N) consOk_nil)
theorem slices_ContainsFunc_Sint64_int64__impl_PointsRight_c1.ls (N : Nat) : LoopsOk Try.prog (slices_ContainsFunc_Sint64_int64__impl_PointsRight_c1.cfg N) (fnBody Try.f35) := loopsL (l := []) (by kernel_rfl) trivial
theorem slices_ContainsFunc_Sint64_int64__impl_PointsRight_c1.b (N : Nat) (x0 : den (.sl 2 (.int .i64))) : body (slices_ContainsFunc_Sint64_int64__impl_PointsRight_c1.cfg N) N Try.f35 [.one, .fn 61 0] [.v] [(false, .imm)] [⟨(.sl 2 (.int .i64)), .imm, x0⟩] (fun r i => some (r, i)) = bindO (slices_ContainsFunc_Sint64_int64__impl_PointsRight_c1 N x0) fun r => some ([⟨.bool, .imm, r⟩], []) := by
  show _ = bindF _ _
  conv => rhs; simp only [slices_ContainsFunc_Sint64_int64__impl_PointsRight_c1, bindF_ifB, bindF_bindO, bindF_pure, bindF_none, bindF_onSum]
  kernel_rfl
theorem slices_ContainsFunc_Sint64_int64__impl_PointsRight_c1.ok (N : Nat) : ConOk Try.prog 35 [.one, .fn 61 0] (slices_ContainsFunc_Sint64_int64__impl_PointsRight_c1.con N) := by
  refine conOk_mk (g := slices_ContainsFunc_Sint64_int64__impl_PointsRight_c1.cfg N) (N := N) (res := [(false, .imm)]) tys_ok (slices_ContainsFunc_Sint64_int64__impl_PointsRight_c1.cons N) mixed Try.func35 (slices_ContainsFunc_Sint64_int64__impl_PointsRight_c1.ls N) rfl rfl ?_
  intro ds R k y h
  cases ds with
  | nil => exact none_some h
  | cons d0 ds =>
  cases ds with
  | cons _ _ => exact none_some h
  | nil =>
  have h0 : (castDm (.sl 2 (.int .i64)) .imm d0 fun x0 => bindO (slices_ContainsFunc_Sint64_int64__impl_PointsRight_c1 N x0) fun r => k [⟨.bool, .imm, r⟩] []) = some y := h
  clear h
  obtain ⟨x0, rfl, h1⟩ := castDm_eq h0
  exact con_fin (slices_ContainsFunc_Sint64_int64__impl_PointsRight_c1.b N x0) h1
noncomputable def impl_PointsRight.con (N : Nat) : Con := { modes := [.v], ptrs := [false], fn := fun ds k => match ds with | [d0] => castDm (.sl 2 (.int .i64)) .imm d0 fun x0 => bindO (impl_PointsRight N x0) fun r => k [⟨.bool, .imm, r⟩] [] | _ => none }
noncomputable def impl_PointsRight.cfg (N : Nat) : Cfg := { ty := tys, keep := [8], flt := [], elm := [(24, (.own (.own .imm))), (29, (.own .imm)), (30, (.pr (.own .imm) .imm)), (31, (.pr (.own .imm) .imm)), (34, (.pr (.own .imm) .imm)), (45, (.own .imm)), (59, (.own .imm))], live := [], ord := [], con := [((35, [.one, .fn 61 0]), slices_ContainsFunc_Sint64_int64__impl_PointsRight_c1.con N)], loops := [], joins := [] }
theorem impl_PointsRight.cons (N : Nat) : ConsOk Try.prog (impl_PointsRight.cfg N).con := (consOk_cons (hb35) (slices_ContainsFunc_Sint64_int64__impl_PointsRight_c1.ok N) consOk_nil)
theorem impl_PointsRight.ls (N : Nat) : LoopsOk Try.prog (impl_PointsRight.cfg N) (fnBody Try.f54) := loopsL (l := []) (by kernel_rfl) trivial
theorem impl_PointsRight.b (N : Nat) (x0 : den (.sl 2 (.int .i64))) : body (impl_PointsRight.cfg N) N Try.f54 [.one] [.v] [(false, .imm)] [⟨(.sl 2 (.int .i64)), .imm, x0⟩] (fun r i => some (r, i)) = bindO (impl_PointsRight N x0) fun r => some ([⟨.bool, .imm, r⟩], []) := by
  show _ = bindF _ _
  conv => rhs; simp only [impl_PointsRight, bindF_ifB, bindF_bindO, bindF_pure, bindF_none, bindF_onSum]
  kernel_rfl
theorem impl_PointsRight.ok (N : Nat) : ConOk Try.prog 54 [.one] (impl_PointsRight.con N) := by
  refine conOk_mk (g := impl_PointsRight.cfg N) (N := N) (res := [(false, .imm)]) tys_ok (impl_PointsRight.cons N) mixed Try.func54 (impl_PointsRight.ls N) rfl rfl ?_
  intro ds R k y h
  cases ds with
  | nil => exact none_some h
  | cons d0 ds =>
  cases ds with
  | cons _ _ => exact none_some h
  | nil =>
  have h0 : (castDm (.sl 2 (.int .i64)) .imm d0 fun x0 => bindO (impl_PointsRight N x0) fun r => k [⟨.bool, .imm, r⟩] []) = some y := h
  clear h
  obtain ⟨x0, rfl, h1⟩ := castDm_eq h0
  exact con_fin (impl_PointsRight.b N x0) h1
noncomputable def impl_compAsked.con (N : Nat) : Con := { modes := [.v, .v], ptrs := [false], fn := fun ds k => match ds with | [d0, d1] => castDm (.sl 29 (.sl 2 (.int .i64))) .imm d0 fun x0 => castDm (.sl 2 (.int .i64)) .imm d1 fun x1 => bindO (impl_compAsked N x0 x1) fun r => k [⟨.bool, .imm, r⟩] [] | _ => none }
noncomputable def impl_compAsked.cfg (N : Nat) : Cfg := { ty := tys, keep := [7, 12, 17, 21], flt := [], elm := [(24, (.own (.own .imm))), (29, (.own .imm)), (30, (.pr (.own .imm) .imm)), (31, (.pr (.own .imm) .imm)), (34, (.pr (.own .imm) .imm)), (45, (.own .imm)), (59, (.own .imm))], live := [], ord := [], con := [((58, [.one]), impl_isMany.con N), ((12, [.one]), impl_CandsRight.con N), ((54, [.one]), impl_PointsRight.con N)], loops := [], joins := [] }
theorem impl_compAsked.cons (N : Nat) : ConsOk Try.prog (impl_compAsked.cfg N).con := (consOk_cons (hb58) (impl_isMany.ok N) (consOk_cons (hb12) (impl_CandsRight.ok N) (consOk_cons (hb54) (impl_PointsRight.ok N) consOk_nil)))
theorem impl_compAsked.ls (N : Nat) : LoopsOk Try.prog (impl_compAsked.cfg N) (fnBody Try.f46) := loopsL (l := []) (by kernel_rfl) trivial
theorem impl_compAsked.b (N : Nat) (x0 : den (.sl 29 (.sl 2 (.int .i64)))) (x1 : den (.sl 2 (.int .i64))) : body (impl_compAsked.cfg N) N Try.f46 [.one, .one] [.v, .v] [(false, .imm)] [⟨(.sl 29 (.sl 2 (.int .i64))), .imm, x0⟩, ⟨(.sl 2 (.int .i64)), .imm, x1⟩] (fun r i => some (r, i)) = bindO (impl_compAsked N x0 x1) fun r => some ([⟨.bool, .imm, r⟩], []) := by
  show _ = bindF _ _
  conv => rhs; simp only [impl_compAsked, bindF_ifB, bindF_bindO, bindF_pure, bindF_none, bindF_onSum]
  kernel_rfl
theorem impl_compAsked.ok (N : Nat) : ConOk Try.prog 46 [.one, .one] (impl_compAsked.con N) := by
  refine conOk_mk (g := impl_compAsked.cfg N) (N := N) (res := [(false, .imm)]) tys_ok (impl_compAsked.cons N) mixed Try.func46 (impl_compAsked.ls N) rfl rfl ?_
  intro ds R k y h
  cases ds with
  | nil => exact none_some h
  | cons d0 ds =>
  cases ds with
  | nil => exact none_some h
  | cons d1 ds =>
  cases ds with
  | cons _ _ => exact none_some h
  | nil =>
  have h0 : (castDm (.sl 29 (.sl 2 (.int .i64))) .imm d0 fun x0 => castDm (.sl 2 (.int .i64)) .imm d1 fun x1 => bindO (impl_compAsked N x0 x1) fun r => k [⟨.bool, .imm, r⟩] []) = some y := h
  clear h
  obtain ⟨x0, rfl, h1⟩ := castDm_eq h0
  obtain ⟨x1, rfl, h2⟩ := castDm_eq h1
  exact con_fin (impl_compAsked.b N x0 x1) h2
def slices_Equal_Sint64_int64.sk4 : Skel := ⟨[.pv (.sl 2 (.int .i64)), .pv (.sl 2 (.int .i64)), .dead, .dead, .dead, .dead, .dead, .dead, .dead, .dead, .dead, .dead, .pv (.int .i64), .pv (.int .i64), .dead, .dead, .dead, .dead, .dead, .dead, .dead, .dead, .dead, .dead, .dead, .dead], []⟩
def slices_Equal_Sint64_int64.xs4 : List XS := [⟨.exit 0, [], ⟨[.dead, .dead, .dead, .dead, .dead, .dead, .dead, .dead, .dead, .dead, .dead, .dead, .dead, .dead, .dead, .dead, .dead, .dead, .dead, .dead, .dead, .dead, .dead, .dead, .dead, .dead], []⟩⟩, ⟨.ret, [4], ⟨[.dead, .dead, .dead, .dead, .pv .bool, .dead, .dead, .dead, .dead, .dead, .dead, .dead, .dead, .dead, .dead, .dead, .dead, .dead, .dead, .dead, .dead, .dead, .dead, .dead, .dead, .dead], []⟩⟩]
noncomputable def slices_Equal_Sint64_int64.con (N : Nat) : Con := { modes := [.v, .v], ptrs := [false], fn := fun ds k => match ds with | [d0, d1] => castDm (.sl 2 (.int .i64)) .imm d0 fun x0 => castDm (.sl 2 (.int .i64)) .imm d1 fun x1 => bindO (slices_Equal_Sint64_int64 N x0 x1) fun r => k [⟨.bool, .imm, r⟩] [] | _ => none }
noncomputable def slices_Equal_Sint64_int64.cfg (N : Nat) : Cfg := { ty := tys, keep := [], flt := [], elm := [(24, (.own (.own .imm))), (29, (.own .imm)), (30, (.pr (.own .imm) .imm)), (31, (.pr (.own .imm) .imm)), (34, (.pr (.own .imm) .imm)), (45, (.own .imm)), (59, (.own .imm))], live := [(4, [0, 1, 12, 13])], ord := [(6, [0, 1, 2, 3, 4, 5, 6, 7, 8])], con := [], loops := [(4, loopCon N slices_Equal_Sint64_int64.sk4 slices_Equal_Sint64_int64.xs4 (fun {R} => slices_Equal_Sint64_int64.l4 (R := R) N))], joins := [] }
theorem slices_Equal_Sint64_int64.cons (N : Nat) : ConsOk Try.prog (slices_Equal_Sint64_int64.cfg N).con := consOk_nil
theorem slices_Equal_Sint64_int64.h4 {R : Type} (N : Nat) (d : slices_Equal_Sint64_int64.sk4.D) (kn : slices_Equal_Sint64_int64.sk4.D → Option R) (kx : XD slices_Equal_Sint64_int64.xs4 → Option R) : roundK (slices_Equal_Sint64_int64.cfg N) N (nthLoop (fnBody Try.f62) 0) slices_Equal_Sint64_int64.sk4 slices_Equal_Sint64_int64.xs4 d kn kx = slices_Equal_Sint64_int64.l4 N d kn kx := by kernel_rfl
theorem slices_Equal_Sint64_int64.i4 (N : Nat) : LoopsOk Try.prog (slices_Equal_Sint64_int64.cfg N) (nthLoop (fnBody Try.f62) 0) := loopsL (l := []) (by kernel_rfl) trivial
theorem slices_Equal_Sint64_int64.o4 (N : Nat) : LoopOk Try.prog (nthLoop (fnBody Try.f62) 0) (loopCon N slices_Equal_Sint64_int64.sk4 slices_Equal_Sint64_int64.xs4 (fun {R} => slices_Equal_Sint64_int64.l4 (R := R) N)) := loop_ok (g := slices_Equal_Sint64_int64.cfg N) tys_ok (slices_Equal_Sint64_int64.cons N) mixed (slices_Equal_Sint64_int64.i4 N) (fun d kn kx => slices_Equal_Sint64_int64.h4 N d kn kx)
theorem slices_Equal_Sint64_int64.ls (N : Nat) : LoopsOk Try.prog (slices_Equal_Sint64_int64.cfg N) (fnBody Try.f62) := loopsL (l := [nthLoop (fnBody Try.f62) 0]) (by kernel_rfl) ⟨loopOne (L0 := loopCon N slices_Equal_Sint64_int64.sk4 slices_Equal_Sint64_int64.xs4 (fun {R} => slices_Equal_Sint64_int64.l4 (R := R) N)) (id := 4) (by kernel_rfl) (by kernel_rfl) (slices_Equal_Sint64_int64.o4 N), trivial⟩
theorem slices_Equal_Sint64_int64.q4 {R R' : Type} {N n : Nat} {d} {k} {g : R → Option R'} : bindF (loopP (slices_Equal_Sint64_int64.l4 N) n d k) g = loopP (slices_Equal_Sint64_int64.l4 N) n d fun e => bindF (k e) g := bindF_loopP (fun d kn kx => by simp only [slices_Equal_Sint64_int64.l4, bindF_ifB, bindF_bindO, bindF_pure, bindF_none, bindF_onSum]) n d k
theorem slices_Equal_Sint64_int64.b (N : Nat) (x0 : den (.sl 2 (.int .i64))) (x1 : den (.sl 2 (.int .i64))) : body (slices_Equal_Sint64_int64.cfg N) N Try.f62 [.one, .one] [.v, .v] [(false, .imm)] [⟨(.sl 2 (.int .i64)), .imm, x0⟩, ⟨(.sl 2 (.int .i64)), .imm, x1⟩] (fun r i => some (r, i)) = bindO (slices_Equal_Sint64_int64 N x0 x1) fun r => some ([⟨.bool, .imm, r⟩], []) := by
  show _ = bindF _ _
  conv => rhs; simp only [slices_Equal_Sint64_int64, bindF_ifB, bindF_bindO, bindF_pure, bindF_none, bindF_onSum, slices_Equal_Sint64_int64.q4]
  kernel_rfl
theorem slices_Equal_Sint64_int64.ok (N : Nat) : ConOk Try.prog 62 [.one, .one] (slices_Equal_Sint64_int64.con N) := by
  refine conOk_mk (g := slices_Equal_Sint64_int64.cfg N) (N := N) (res := [(false, .imm)]) tys_ok (slices_Equal_Sint64_int64.cons N) mixed Try.func62 (slices_Equal_Sint64_int64.ls N) rfl rfl ?_
  intro ds R k y h
  cases ds with
  | nil => exact none_some h
  | cons d0 ds =>
  cases ds with
  | nil => exact none_some h
  | cons d1 ds =>
  cases ds with
  | cons _ _ => exact none_some h
  | nil =>
  have h0 : (castDm (.sl 2 (.int .i64)) .imm d0 fun x0 => castDm (.sl 2 (.int .i64)) .imm d1 fun x1 => bindO (slices_Equal_Sint64_int64 N x0 x1) fun r => k [⟨.bool, .imm, r⟩] []) = some y := h
  clear h
  obtain ⟨x0, rfl, h1⟩ := castDm_eq h0
  obtain ⟨x1, rfl, h2⟩ := castDm_eq h1
  exact con_fin (slices_Equal_Sint64_int64.b N x0 x1) h2
noncomputable def impl_begins.con (N : Nat) : Con := { modes := [.v, .v], ptrs := [false], fn := fun ds k => match ds with | [d0, d1] => castDm (.sl 2 (.int .i64)) .imm d0 fun x0 => castDm (.sl 2 (.int .i64)) .imm d1 fun x1 => bindO (impl_begins N x0 x1) fun r => k [⟨.bool, .imm, r⟩] [] | _ => none }
noncomputable def impl_begins.cfg (N : Nat) : Cfg := { ty := tys, keep := [16], flt := [], elm := [(24, (.own (.own .imm))), (29, (.own .imm)), (30, (.pr (.own .imm) .imm)), (31, (.pr (.own .imm) .imm)), (34, (.pr (.own .imm) .imm)), (45, (.own .imm)), (59, (.own .imm))], live := [], ord := [], con := [((62, [.one, .one]), slices_Equal_Sint64_int64.con N)], loops := [], joins := [] }
theorem impl_begins.cons (N : Nat) : ConsOk Try.prog (impl_begins.cfg N).con := (consOk_cons (hb62) (slices_Equal_Sint64_int64.ok N) consOk_nil)
theorem impl_begins.ls (N : Nat) : LoopsOk Try.prog (impl_begins.cfg N) (fnBody Try.f59) := loopsL (l := []) (by kernel_rfl) trivial
theorem impl_begins.b (N : Nat) (x0 : den (.sl 2 (.int .i64))) (x1 : den (.sl 2 (.int .i64))) : body (impl_begins.cfg N) N Try.f59 [.one, .one] [.v, .v] [(false, .imm)] [⟨(.sl 2 (.int .i64)), .imm, x0⟩, ⟨(.sl 2 (.int .i64)), .imm, x1⟩] (fun r i => some (r, i)) = bindO (impl_begins N x0 x1) fun r => some ([⟨.bool, .imm, r⟩], []) := by
  show _ = bindF _ _
  conv => rhs; simp only [impl_begins, bindF_ifB, bindF_bindO, bindF_pure, bindF_none, bindF_onSum]
  kernel_rfl
theorem impl_begins.ok (N : Nat) : ConOk Try.prog 59 [.one, .one] (impl_begins.con N) := by
  refine conOk_mk (g := impl_begins.cfg N) (N := N) (res := [(false, .imm)]) tys_ok (impl_begins.cons N) mixed Try.func59 (impl_begins.ls N) rfl rfl ?_
  intro ds R k y h
  cases ds with
  | nil => exact none_some h
  | cons d0 ds =>
  cases ds with
  | nil => exact none_some h
  | cons d1 ds =>
  cases ds with
  | cons _ _ => exact none_some h
  | nil =>
  have h0 : (castDm (.sl 2 (.int .i64)) .imm d0 fun x0 => castDm (.sl 2 (.int .i64)) .imm d1 fun x1 => bindO (impl_begins N x0 x1) fun r => k [⟨.bool, .imm, r⟩] []) = some y := h
  clear h
  obtain ⟨x0, rfl, h1⟩ := castDm_eq h0
  obtain ⟨x1, rfl, h2⟩ := castDm_eq h1
  exact con_fin (impl_begins.b N x0 x1) h2
def impl_matches.sk3 : Skel := ⟨[.dead, .pv (.sl 2 (.int .i64)), .dead, .dead, .dead, .dead, .ov 50 [], .ov 51 [], .dead, .dead, .dead, .dead, .pv (.sl 29 (.sl 2 (.int .i64))), .pv (.int .i64), .pv (.int .i64), .dead, .dead, .dead, .dead, .dead, .dead, .dead, .dead, .dead, .dead, .dead, .dead, .dead, .dead, .dead, .dead, .dead, .dead], [⟨50, (.sl 29 (.sl 2 (.int .i64))), (.own .imm), false, false⟩, ⟨51, (.sl 2 (.int .i64)), (.own .imm), false, false⟩]⟩
def impl_matches.xs3 : List XS := [⟨.exit 0, [6, 7], ⟨[.dead, .dead, .dead, .dead, .dead, .dead, .ov 50 [], .ov 51 [], .dead, .dead, .dead, .dead, .dead, .dead, .dead, .dead, .dead, .dead, .dead, .dead, .dead, .dead, .dead, .dead, .dead, .dead, .dead, .dead, .dead, .dead, .dead, .dead, .dead], [⟨50, (.sl 29 (.sl 2 (.int .i64))), (.own .imm), false, false⟩, ⟨51, (.sl 2 (.int .i64)), (.own .imm), false, false⟩]⟩⟩]
noncomputable def impl_matches.con (N : Nat) : Con := { modes := [.v, .v], ptrs := [false, false], fn := fun ds k => match ds with | [d0, d1] => castDm (.sl 29 (.sl 2 (.int .i64))) .imm d0 fun x0 => castDm (.sl 2 (.int .i64)) .imm d1 fun x1 => bindO (impl_matches N x0 x1) fun r => k [⟨(.sl 29 (.sl 2 (.int .i64))), (.own .imm), r.1⟩, ⟨(.sl 2 (.int .i64)), (.own .imm), r.2⟩] [] | _ => none }
noncomputable def impl_matches.cfg (N : Nat) : Cfg := { ty := tys, keep := [21], flt := [], elm := [], live := [(3, [1, 6, 7, 12, 13, 14])], ord := [], con := [((59, [.one, .one]), impl_begins.con N)], loops := [(3, loopCon N impl_matches.sk3 impl_matches.xs3 (fun {R} => impl_matches.l3 (R := R) N))], joins := [(8, [⟨.normal, [1, 6, 7, 12, 13, 14], ⟨[.dead, .pv (.sl 2 (.int .i64)), .dead, .dead, .dead, .dead, .ov 50 [], .ov 51 [], .dead, .dead, .dead, .dead, .pv (.sl 29 (.sl 2 (.int .i64))), .pv (.int .i64), .pv (.int .i64), .dead, .dead, .dead, .dead, .dead, .dead, .dead, .dead, .dead, .dead, .dead, .dead, .dead, .dead, .dead, .dead, .dead, .dead], [⟨50, (.sl 29 (.sl 2 (.int .i64))), (.own .imm), false, false⟩, ⟨51, (.sl 2 (.int .i64)), (.own .imm), false, false⟩]⟩⟩])] }
theorem impl_matches.cons (N : Nat) : ConsOk Try.prog (impl_matches.cfg N).con := (consOk_cons (hb59) (impl_begins.ok N) consOk_nil)
theorem impl_matches.h3 {R : Type} (N : Nat) (d : impl_matches.sk3.D) (kn : impl_matches.sk3.D → Option R) (kx : XD impl_matches.xs3 → Option R) : roundK (impl_matches.cfg N) N (nthLoop (fnBody Try.f47) 0) impl_matches.sk3 impl_matches.xs3 d kn kx = impl_matches.l3 N d kn kx := by kernel_rfl
theorem impl_matches.i3 (N : Nat) : LoopsOk Try.prog (impl_matches.cfg N) (nthLoop (fnBody Try.f47) 0) := loopsL (l := []) (by kernel_rfl) trivial
theorem impl_matches.o3 (N : Nat) : LoopOk Try.prog (nthLoop (fnBody Try.f47) 0) (loopCon N impl_matches.sk3 impl_matches.xs3 (fun {R} => impl_matches.l3 (R := R) N)) := loop_ok (g := impl_matches.cfg N) tys_ok (impl_matches.cons N) mixed (impl_matches.i3 N) (fun d kn kx => impl_matches.h3 N d kn kx)
theorem impl_matches.ls (N : Nat) : LoopsOk Try.prog (impl_matches.cfg N) (fnBody Try.f47) := loopsL (l := [nthLoop (fnBody Try.f47) 0]) (by kernel_rfl) ⟨loopOne (L0 := loopCon N impl_matches.sk3 impl_matches.xs3 (fun {R} => impl_matches.l3 (R := R) N)) (id := 3) (by kernel_rfl) (by kernel_rfl) (impl_matches.o3 N), trivial⟩
theorem impl_matches.q3 {R R' : Type} {N n : Nat} {d} {k} {g : R → Option R'} : bindF (loopP (impl_matches.l3 N) n d k) g = loopP (impl_matches.l3 N) n d fun e => bindF (k e) g := bindF_loopP (fun d kn kx => by simp only [impl_matches.l3, bindF_ifB, bindF_bindO, bindF_pure, bindF_none, bindF_onSum]) n d k
theorem impl_matches.b (N : Nat) (x0 : den (.sl 29 (.sl 2 (.int .i64)))) (x1 : den (.sl 2 (.int .i64))) : body (impl_matches.cfg N) N Try.f47 [.one, .one] [.v, .v] [(false, (.own .imm)), (false, (.own .imm))] [⟨(.sl 29 (.sl 2 (.int .i64))), .imm, x0⟩, ⟨(.sl 2 (.int .i64)), .imm, x1⟩] (fun r i => some (r, i)) = bindO (impl_matches N x0 x1) fun r => some ([⟨(.sl 29 (.sl 2 (.int .i64))), (.own .imm), r.1⟩, ⟨(.sl 2 (.int .i64)), (.own .imm), r.2⟩], []) := by
  show _ = bindF _ _
  conv => rhs; simp only [impl_matches, bindF_ifB, bindF_bindO, bindF_pure, bindF_none, bindF_onSum, impl_matches.q3]
  kernel_rfl
theorem impl_matches.ok (N : Nat) : ConOk Try.prog 47 [.one, .one] (impl_matches.con N) := by
  refine conOk_mk (g := impl_matches.cfg N) (N := N) (res := [(false, (.own .imm)), (false, (.own .imm))]) tys_ok (impl_matches.cons N) mixed Try.func47 (impl_matches.ls N) rfl rfl ?_
  intro ds R k y h
  cases ds with
  | nil => exact none_some h
  | cons d0 ds =>
  cases ds with
  | nil => exact none_some h
  | cons d1 ds =>
  cases ds with
  | cons _ _ => exact none_some h
  | nil =>
  have h0 : (castDm (.sl 29 (.sl 2 (.int .i64))) .imm d0 fun x0 => castDm (.sl 2 (.int .i64)) .imm d1 fun x1 => bindO (impl_matches N x0 x1) fun r => k [⟨(.sl 29 (.sl 2 (.int .i64))), (.own .imm), r.1⟩, ⟨(.sl 2 (.int .i64)), (.own .imm), r.2⟩] []) = some y := h
  clear h
  obtain ⟨x0, rfl, h1⟩ := castDm_eq h0
  obtain ⟨x1, rfl, h2⟩ := castDm_eq h1
  exact con_fin (impl_matches.b N x0 x1) h2
noncomputable def impl_CompMatch.con (N : Nat) : Con := { modes := [.v, .v], ptrs := [false], fn := fun ds k => match ds with | [d0, d1] => castDm (.sl 29 (.sl 2 (.int .i64))) .imm d0 fun x0 => castDm (.sl 2 (.int .i64)) .imm d1 fun x1 => bindO (impl_CompMatch N x0 x1) fun r => k [⟨(.sl 2 (.int .i64)), (.own .imm), r⟩] [] | _ => none }
noncomputable def impl_CompMatch.cfg (N : Nat) : Cfg := { ty := tys, keep := [9, 14], flt := [], elm := [(24, (.own (.own .imm))), (29, (.own .imm)), (30, (.pr (.own .imm) .imm)), (31, (.pr (.own .imm) .imm)), (34, (.pr (.own .imm) .imm)), (45, (.own .imm)), (59, (.own .imm))], live := [], ord := [], con := [((46, [.one, .one]), impl_compAsked.con N), ((47, [.one, .one]), impl_matches.con N)], loops := [], joins := [] }
theorem impl_CompMatch.cons (N : Nat) : ConsOk Try.prog (impl_CompMatch.cfg N).con := (consOk_cons (hb46) (impl_compAsked.ok N) (consOk_cons (hb47) (impl_matches.ok N) consOk_nil))
theorem impl_CompMatch.ls (N : Nat) : LoopsOk Try.prog (impl_CompMatch.cfg N) (fnBody Try.f25) := loopsL (l := []) (by kernel_rfl) trivial
theorem impl_CompMatch.b (N : Nat) (x0 : den (.sl 29 (.sl 2 (.int .i64)))) (x1 : den (.sl 2 (.int .i64))) : body (impl_CompMatch.cfg N) N Try.f25 [.one, .one] [.v, .v] [(false, (.own .imm))] [⟨(.sl 29 (.sl 2 (.int .i64))), .imm, x0⟩, ⟨(.sl 2 (.int .i64)), .imm, x1⟩] (fun r i => some (r, i)) = bindO (impl_CompMatch N x0 x1) fun r => some ([⟨(.sl 2 (.int .i64)), (.own .imm), r⟩], []) := by
  show _ = bindF _ _
  conv => rhs; simp only [impl_CompMatch, bindF_ifB, bindF_bindO, bindF_pure, bindF_none, bindF_onSum]
  kernel_rfl
theorem impl_CompMatch.ok (N : Nat) : ConOk Try.prog 25 [.one, .one] (impl_CompMatch.con N) := by
  refine conOk_mk (g := impl_CompMatch.cfg N) (N := N) (res := [(false, (.own .imm))]) tys_ok (impl_CompMatch.cons N) mixed Try.func25 (impl_CompMatch.ls N) rfl rfl ?_
  intro ds R k y h
  cases ds with
  | nil => exact none_some h
  | cons d0 ds =>
  cases ds with
  | nil => exact none_some h
  | cons d1 ds =>
  cases ds with
  | cons _ _ => exact none_some h
  | nil =>
  have h0 : (castDm (.sl 29 (.sl 2 (.int .i64))) .imm d0 fun x0 => castDm (.sl 2 (.int .i64)) .imm d1 fun x1 => bindO (impl_CompMatch N x0 x1) fun r => k [⟨(.sl 2 (.int .i64)), (.own .imm), r⟩] []) = some y := h
  clear h
  obtain ⟨x0, rfl, h1⟩ := castDm_eq h0
  obtain ⟨x1, rfl, h2⟩ := castDm_eq h1
  exact con_fin (impl_CompMatch.b N x0 x1) h2
def laws_eqInt64S.sk4 : Skel := ⟨[.pv (.sl 2 (.int .i64)), .pv (.sl 2 (.int .i64)), .dead, .dead, .dead, .pv (.int .i64), .dead, .dead, .dead, .dead, .dead, .dead, .dead, .dead, .dead, .dead, .dead, .dead, .dead, .dead, .dead, .dead, .dead, .dead, .dead, .dead], []⟩
def laws_eqInt64S.xs4 : List XS := [⟨.exit 0, [], ⟨[.dead, .dead, .dead, .dead, .dead, .dead, .dead, .dead, .dead, .dead, .dead, .dead, .dead, .dead, .dead, .dead, .dead, .dead, .dead, .dead, .dead, .dead, .dead, .dead, .dead, .dead], []⟩⟩, ⟨.ret, [4], ⟨[.dead, .dead, .dead, .dead, .pv .bool, .dead, .dead, .dead, .dead, .dead, .dead, .dead, .dead, .dead, .dead, .dead, .dead, .dead, .dead, .dead, .dead, .dead, .dead, .dead, .dead, .dead], []⟩⟩]
noncomputable def laws_eqInt64S.con (N : Nat) : Con := { modes := [.v, .v], ptrs := [false], fn := fun ds k => match ds with | [d0, d1] => castDm (.sl 2 (.int .i64)) .imm d0 fun x0 => castDm (.sl 2 (.int .i64)) .imm d1 fun x1 => bindO (laws_eqInt64S N x0 x1) fun r => k [⟨.bool, .imm, r⟩] [] | _ => none }
noncomputable def laws_eqInt64S.cfg (N : Nat) : Cfg := { ty := tys, keep := [], flt := [], elm := [(24, (.own (.own .imm))), (29, (.own .imm)), (30, (.pr (.own .imm) .imm)), (31, (.pr (.own .imm) .imm)), (34, (.pr (.own .imm) .imm)), (45, (.own .imm)), (59, (.own .imm))], live := [(4, [0, 1, 5])], ord := [(6, [0, 1, 2, 3, 4, 5, 6, 7, 8])], con := [], loops := [(4, loopCon N laws_eqInt64S.sk4 laws_eqInt64S.xs4 (fun {R} => laws_eqInt64S.l4 (R := R) N))], joins := [] }
theorem laws_eqInt64S.cons (N : Nat) : ConsOk Try.prog (laws_eqInt64S.cfg N).con := consOk_nil
theorem laws_eqInt64S.h4 {R : Type} (N : Nat) (d : laws_eqInt64S.sk4.D) (kn : laws_eqInt64S.sk4.D → Option R) (kx : XD laws_eqInt64S.xs4 → Option R) : roundK (laws_eqInt64S.cfg N) N (nthLoop (fnBody Try.f18) 0) laws_eqInt64S.sk4 laws_eqInt64S.xs4 d kn kx = laws_eqInt64S.l4 N d kn kx := by kernel_rfl
theorem laws_eqInt64S.i4 (N : Nat) : LoopsOk Try.prog (laws_eqInt64S.cfg N) (nthLoop (fnBody Try.f18) 0) := loopsL (l := []) (by kernel_rfl) trivial
theorem laws_eqInt64S.o4 (N : Nat) : LoopOk Try.prog (nthLoop (fnBody Try.f18) 0) (loopCon N laws_eqInt64S.sk4 laws_eqInt64S.xs4 (fun {R} => laws_eqInt64S.l4 (R := R) N)) := loop_ok (g := laws_eqInt64S.cfg N) tys_ok (laws_eqInt64S.cons N) mixed (laws_eqInt64S.i4 N) (fun d kn kx => laws_eqInt64S.h4 N d kn kx)
theorem laws_eqInt64S.ls (N : Nat) : LoopsOk Try.prog (laws_eqInt64S.cfg N) (fnBody Try.f18) := loopsL (l := [nthLoop (fnBody Try.f18) 0]) (by kernel_rfl) ⟨loopOne (L0 := loopCon N laws_eqInt64S.sk4 laws_eqInt64S.xs4 (fun {R} => laws_eqInt64S.l4 (R := R) N)) (id := 4) (by kernel_rfl) (by kernel_rfl) (laws_eqInt64S.o4 N), trivial⟩
theorem laws_eqInt64S.q4 {R R' : Type} {N n : Nat} {d} {k} {g : R → Option R'} : bindF (loopP (laws_eqInt64S.l4 N) n d k) g = loopP (laws_eqInt64S.l4 N) n d fun e => bindF (k e) g := bindF_loopP (fun d kn kx => by simp only [laws_eqInt64S.l4, bindF_ifB, bindF_bindO, bindF_pure, bindF_none, bindF_onSum]) n d k
theorem laws_eqInt64S.b (N : Nat) (x0 : den (.sl 2 (.int .i64))) (x1 : den (.sl 2 (.int .i64))) : body (laws_eqInt64S.cfg N) N Try.f18 [.one, .one] [.v, .v] [(false, .imm)] [⟨(.sl 2 (.int .i64)), .imm, x0⟩, ⟨(.sl 2 (.int .i64)), .imm, x1⟩] (fun r i => some (r, i)) = bindO (laws_eqInt64S N x0 x1) fun r => some ([⟨.bool, .imm, r⟩], []) := by
  show _ = bindF _ _
  conv => rhs; simp only [laws_eqInt64S, bindF_ifB, bindF_bindO, bindF_pure, bindF_none, bindF_onSum, laws_eqInt64S.q4]
  kernel_rfl
theorem laws_eqInt64S.ok (N : Nat) : ConOk Try.prog 18 [.one, .one] (laws_eqInt64S.con N) := by
  refine conOk_mk (g := laws_eqInt64S.cfg N) (N := N) (res := [(false, .imm)]) tys_ok (laws_eqInt64S.cons N) mixed Try.func18 (laws_eqInt64S.ls N) rfl rfl ?_
  intro ds R k y h
  cases ds with
  | nil => exact none_some h
  | cons d0 ds =>
  cases ds with
  | nil => exact none_some h
  | cons d1 ds =>
  cases ds with
  | cons _ _ => exact none_some h
  | nil =>
  have h0 : (castDm (.sl 2 (.int .i64)) .imm d0 fun x0 => castDm (.sl 2 (.int .i64)) .imm d1 fun x1 => bindO (laws_eqInt64S N x0 x1) fun r => k [⟨.bool, .imm, r⟩] []) = some y := h
  clear h
  obtain ⟨x0, rfl, h1⟩ := castDm_eq h0
  obtain ⟨x1, rfl, h2⟩ := castDm_eq h1
  exact con_fin (laws_eqInt64S.b N x0 x1) h2
def laws_eqInt64SS.sk4 : Skel := ⟨[.pv (.sl 29 (.sl 2 (.int .i64))), .pv (.sl 29 (.sl 2 (.int .i64))), .dead, .dead, .dead, .pv (.int .i64), .dead, .dead, .dead, .dead, .dead, .dead, .dead, .dead, .dead, .dead, .dead, .dead, .dead, .dead, .dead, .dead, .dead, .dead, .dead, .dead, .dead], []⟩
def laws_eqInt64SS.xs4 : List XS := [⟨.exit 0, [], ⟨[.dead, .dead, .dead, .dead, .dead, .dead, .dead, .dead, .dead, .dead, .dead, .dead, .dead, .dead, .dead, .dead, .dead, .dead, .dead, .dead, .dead, .dead, .dead, .dead, .dead, .dead, .dead], []⟩⟩, ⟨.ret, [4], ⟨[.dead, .dead, .dead, .dead, .pv .bool, .dead, .dead, .dead, .dead, .dead, .dead, .dead, .dead, .dead, .dead, .dead, .dead, .dead, .dead, .dead, .dead, .dead, .dead, .dead, .dead, .dead, .dead], []⟩⟩]
noncomputable def laws_eqInt64SS.con (N : Nat) : Con := { modes := [.v, .v], ptrs := [false], fn := fun ds k => match ds with | [d0, d1] => castDm (.sl 29 (.sl 2 (.int .i64))) .imm d0 fun x0 => castDm (.sl 29 (.sl 2 (.int .i64))) .imm d1 fun x1 => bindO (laws_eqInt64SS N x0 x1) fun r => k [⟨.bool, .imm, r⟩] [] | _ => none }
noncomputable def laws_eqInt64SS.cfg (N : Nat) : Cfg := { ty := tys, keep := [25], flt := [], elm := [(24, (.own (.own .imm))), (29, (.own .imm)), (30, (.pr (.own .imm) .imm)), (31, (.pr (.own .imm) .imm)), (34, (.pr (.own .imm) .imm)), (45, (.own .imm)), (59, (.own .imm))], live := [(4, [0, 1, 5])], ord := [(6, [0, 1, 2, 3, 4, 5, 6, 7, 8, 9])], con := [((18, [.one, .one]), laws_eqInt64S.con N)], loops := [(4, loopCon N laws_eqInt64SS.sk4 laws_eqInt64SS.xs4 (fun {R} => laws_eqInt64SS.l4 (R := R) N))], joins := [] }
theorem laws_eqInt64SS.cons (N : Nat) : ConsOk Try.prog (laws_eqInt64SS.cfg N).con := (consOk_cons (hb18) (laws_eqInt64S.ok N) consOk_nil)
theorem laws_eqInt64SS.h4 {R : Type} (N : Nat) (d : laws_eqInt64SS.sk4.D) (kn : laws_eqInt64SS.sk4.D → Option R) (kx : XD laws_eqInt64SS.xs4 → Option R) : roundK (laws_eqInt64SS.cfg N) N (nthLoop (fnBody Try.f13) 0) laws_eqInt64SS.sk4 laws_eqInt64SS.xs4 d kn kx = laws_eqInt64SS.l4 N d kn kx := by kernel_rfl
theorem laws_eqInt64SS.i4 (N : Nat) : LoopsOk Try.prog (laws_eqInt64SS.cfg N) (nthLoop (fnBody Try.f13) 0) := loopsL (l := []) (by kernel_rfl) trivial
theorem laws_eqInt64SS.o4 (N : Nat) : LoopOk Try.prog (nthLoop (fnBody Try.f13) 0) (loopCon N laws_eqInt64SS.sk4 laws_eqInt64SS.xs4 (fun {R} => laws_eqInt64SS.l4 (R := R) N)) := loop_ok (g := laws_eqInt64SS.cfg N) tys_ok (laws_eqInt64SS.cons N) mixed (laws_eqInt64SS.i4 N) (fun d kn kx => laws_eqInt64SS.h4 N d kn kx)
theorem laws_eqInt64SS.ls (N : Nat) : LoopsOk Try.prog (laws_eqInt64SS.cfg N) (fnBody Try.f13) := loopsL (l := [nthLoop (fnBody Try.f13) 0]) (by kernel_rfl) ⟨loopOne (L0 := loopCon N laws_eqInt64SS.sk4 laws_eqInt64SS.xs4 (fun {R} => laws_eqInt64SS.l4 (R := R) N)) (id := 4) (by kernel_rfl) (by kernel_rfl) (laws_eqInt64SS.o4 N), trivial⟩
theorem laws_eqInt64SS.q4 {R R' : Type} {N n : Nat} {d} {k} {g : R → Option R'} : bindF (loopP (laws_eqInt64SS.l4 N) n d k) g = loopP (laws_eqInt64SS.l4 N) n d fun e => bindF (k e) g := bindF_loopP (fun d kn kx => by simp only [laws_eqInt64SS.l4, bindF_ifB, bindF_bindO, bindF_pure, bindF_none, bindF_onSum]) n d k
theorem laws_eqInt64SS.b (N : Nat) (x0 : den (.sl 29 (.sl 2 (.int .i64)))) (x1 : den (.sl 29 (.sl 2 (.int .i64)))) : body (laws_eqInt64SS.cfg N) N Try.f13 [.one, .one] [.v, .v] [(false, .imm)] [⟨(.sl 29 (.sl 2 (.int .i64))), .imm, x0⟩, ⟨(.sl 29 (.sl 2 (.int .i64))), .imm, x1⟩] (fun r i => some (r, i)) = bindO (laws_eqInt64SS N x0 x1) fun r => some ([⟨.bool, .imm, r⟩], []) := by
  show _ = bindF _ _
  conv => rhs; simp only [laws_eqInt64SS, bindF_ifB, bindF_bindO, bindF_pure, bindF_none, bindF_onSum, laws_eqInt64SS.q4]
  kernel_rfl
theorem laws_eqInt64SS.ok (N : Nat) : ConOk Try.prog 13 [.one, .one] (laws_eqInt64SS.con N) := by
  refine conOk_mk (g := laws_eqInt64SS.cfg N) (N := N) (res := [(false, .imm)]) tys_ok (laws_eqInt64SS.cons N) mixed Try.func13 (laws_eqInt64SS.ls N) rfl rfl ?_
  intro ds R k y h
  cases ds with
  | nil => exact none_some h
  | cons d0 ds =>
  cases ds with
  | nil => exact none_some h
  | cons d1 ds =>
  cases ds with
  | cons _ _ => exact none_some h
  | nil =>
  have h0 : (castDm (.sl 29 (.sl 2 (.int .i64))) .imm d0 fun x0 => castDm (.sl 29 (.sl 2 (.int .i64))) .imm d1 fun x1 => bindO (laws_eqInt64SS N x0 x1) fun r => k [⟨.bool, .imm, r⟩] []) = some y := h
  clear h
  obtain ⟨x0, rfl, h1⟩ := castDm_eq h0
  obtain ⟨x1, rfl, h2⟩ := castDm_eq h1
  exact con_fin (laws_eqInt64SS.b N x0 x1) h2
def laws_markInt64S.sk2 : Skel := ⟨[.ov 0 [], .pv (.int .i64), .dead, .dead, .dead, .pv (.int .i64), .dead, .dead, .dead, .dead, .dead, .dead, .dead, .dead, .dead, .dead, .dead, .dead, .dead], [⟨0, (.sl 2 (.int .i64)), (.own .imm), false, true⟩]⟩
def laws_markInt64S.xs2 : List XS := [⟨.exit 0, [1], ⟨[.dead, .pv (.int .i64), .dead, .dead, .dead, .dead, .dead, .dead, .dead, .dead, .dead, .dead, .dead, .dead, .dead, .dead, .dead, .dead, .dead], [⟨0, (.sl 2 (.int .i64)), (.own .imm), false, true⟩]⟩⟩]
noncomputable def laws_markInt64S.con (N : Nat) : Con := { modes := [.iov, .v], ptrs := [false], fn := fun ds k => match ds with | [d0, d1] => castDm (.sl 2 (.int .i64)) (.own .imm) d0 fun x0 => castDm (.int .i64) .imm d1 fun x1 => bindO (laws_markInt64S N x0 x1) fun r => k [⟨(.int .i64), .imm, r.1⟩] [⟨(.sl 2 (.int .i64)), (.own .imm), r.2⟩] | _ => none }
noncomputable def laws_markInt64S.cfg (N : Nat) : Cfg := { ty := tys, keep := [], flt := [], elm := [(24, (.own (.own .imm))), (29, (.own .imm)), (30, (.pr (.own .imm) .imm)), (31, (.pr (.own .imm) .imm)), (34, (.pr (.own .imm) .imm)), (45, (.own .imm)), (59, (.own .imm))], live := [(2, [0, 1, 5])], ord := [], con := [], loops := [(2, loopCon N laws_markInt64S.sk2 laws_markInt64S.xs2 (fun {R} => laws_markInt64S.l2 (R := R) N))], joins := [] }
theorem laws_markInt64S.cons (N : Nat) : ConsOk Try.prog (laws_markInt64S.cfg N).con := consOk_nil
theorem laws_markInt64S.h2 {R : Type} (N : Nat) (d : laws_markInt64S.sk2.D) (kn : laws_markInt64S.sk2.D → Option R) (kx : XD laws_markInt64S.xs2 → Option R) : roundK (laws_markInt64S.cfg N) N (nthLoop (fnBody Try.f21) 0) laws_markInt64S.sk2 laws_markInt64S.xs2 d kn kx = laws_markInt64S.l2 N d kn kx := by kernel_rfl
theorem laws_markInt64S.i2 (N : Nat) : LoopsOk Try.prog (laws_markInt64S.cfg N) (nthLoop (fnBody Try.f21) 0) := loopsL (l := []) (by kernel_rfl) trivial
theorem laws_markInt64S.o2 (N : Nat) : LoopOk Try.prog (nthLoop (fnBody Try.f21) 0) (loopCon N laws_markInt64S.sk2 laws_markInt64S.xs2 (fun {R} => laws_markInt64S.l2 (R := R) N)) := loop_ok (g := laws_markInt64S.cfg N) tys_ok (laws_markInt64S.cons N) mixed (laws_markInt64S.i2 N) (fun d kn kx => laws_markInt64S.h2 N d kn kx)
theorem laws_markInt64S.ls (N : Nat) : LoopsOk Try.prog (laws_markInt64S.cfg N) (fnBody Try.f21) := loopsL (l := [nthLoop (fnBody Try.f21) 0]) (by kernel_rfl) ⟨loopOne (L0 := loopCon N laws_markInt64S.sk2 laws_markInt64S.xs2 (fun {R} => laws_markInt64S.l2 (R := R) N)) (id := 2) (by kernel_rfl) (by kernel_rfl) (laws_markInt64S.o2 N), trivial⟩
theorem laws_markInt64S.q2 {R R' : Type} {N n : Nat} {d} {k} {g : R → Option R'} : bindF (loopP (laws_markInt64S.l2 N) n d k) g = loopP (laws_markInt64S.l2 N) n d fun e => bindF (k e) g := bindF_loopP (fun d kn kx => by simp only [laws_markInt64S.l2, bindF_ifB, bindF_bindO, bindF_pure, bindF_none, bindF_onSum]) n d k
theorem laws_markInt64S.b (N : Nat) (x0 : den (.sl 2 (.int .i64))) (x1 : den (.int .i64)) : body (laws_markInt64S.cfg N) N Try.f21 [.one, .one] [.iov, .v] [(false, .imm)] [⟨(.sl 2 (.int .i64)), (.own .imm), x0⟩, ⟨(.int .i64), .imm, x1⟩] (fun r i => some (r, i)) = bindO (laws_markInt64S N x0 x1) fun r => some ([⟨(.int .i64), .imm, r.1⟩], [⟨(.sl 2 (.int .i64)), (.own .imm), r.2⟩]) := by
  show _ = bindF _ _
  conv => rhs; simp only [laws_markInt64S, bindF_ifB, bindF_bindO, bindF_pure, bindF_none, bindF_onSum, laws_markInt64S.q2]
  kernel_rfl
theorem laws_markInt64S.ok (N : Nat) : ConOk Try.prog 21 [.one, .one] (laws_markInt64S.con N) := by
  refine conOk_mk (g := laws_markInt64S.cfg N) (N := N) (res := [(false, .imm)]) tys_ok (laws_markInt64S.cons N) mixed Try.func21 (laws_markInt64S.ls N) rfl rfl ?_
  intro ds R k y h
  cases ds with
  | nil => exact none_some h
  | cons d0 ds =>
  cases ds with
  | nil => exact none_some h
  | cons d1 ds =>
  cases ds with
  | cons _ _ => exact none_some h
  | nil =>
  have h0 : (castDm (.sl 2 (.int .i64)) (.own .imm) d0 fun x0 => castDm (.int .i64) .imm d1 fun x1 => bindO (laws_markInt64S N x0 x1) fun r => k [⟨(.int .i64), .imm, r.1⟩] [⟨(.sl 2 (.int .i64)), (.own .imm), r.2⟩]) = some y := h
  clear h
  obtain ⟨x0, rfl, h1⟩ := castDm_eq h0
  obtain ⟨x1, rfl, h2⟩ := castDm_eq h1
  exact con_fin (laws_markInt64S.b N x0 x1) h2
def laws_markInt64SS.sk2 : Skel := ⟨[.ov 0 [], .pv (.int .i64), .dead, .dead, .dead, .pv (.int .i64), .dead, .dead, .dead, .dead, .dead, .dead, .dead, .dead, .dead, .dead, .dead, .dead, .dead], [⟨0, (.sl 29 (.sl 2 (.int .i64))), (.own (.own .imm)), false, true⟩]⟩
def laws_markInt64SS.xs2 : List XS := [⟨.exit 0, [1], ⟨[.dead, .pv (.int .i64), .dead, .dead, .dead, .dead, .dead, .dead, .dead, .dead, .dead, .dead, .dead, .dead, .dead, .dead, .dead, .dead, .dead], [⟨0, (.sl 29 (.sl 2 (.int .i64))), (.own (.own .imm)), false, true⟩]⟩⟩]
noncomputable def laws_markInt64SS.con (N : Nat) : Con := { modes := [.iov, .v], ptrs := [false], fn := fun ds k => match ds with | [d0, d1] => castDm (.sl 29 (.sl 2 (.int .i64))) (.own (.own .imm)) d0 fun x0 => castDm (.int .i64) .imm d1 fun x1 => bindO (laws_markInt64SS N x0 x1) fun r => k [⟨(.int .i64), .imm, r.1⟩] [⟨(.sl 29 (.sl 2 (.int .i64))), (.own (.own .imm)), r.2⟩] | _ => none }
noncomputable def laws_markInt64SS.cfg (N : Nat) : Cfg := { ty := tys, keep := [17], flt := [], elm := [(24, (.own (.own .imm))), (29, (.own .imm)), (30, (.pr (.own .imm) .imm)), (31, (.pr (.own .imm) .imm)), (34, (.pr (.own .imm) .imm)), (45, (.own .imm)), (59, (.own .imm))], live := [(2, [0, 1, 5])], ord := [], con := [((21, [.one, .one]), laws_markInt64S.con N)], loops := [(2, loopCon N laws_markInt64SS.sk2 laws_markInt64SS.xs2 (fun {R} => laws_markInt64SS.l2 (R := R) N))], joins := [] }
theorem laws_markInt64SS.cons (N : Nat) : ConsOk Try.prog (laws_markInt64SS.cfg N).con := (consOk_cons (hb21) (laws_markInt64S.ok N) consOk_nil)
theorem laws_markInt64SS.h2 {R : Type} (N : Nat) (d : laws_markInt64SS.sk2.D) (kn : laws_markInt64SS.sk2.D → Option R) (kx : XD laws_markInt64SS.xs2 → Option R) : roundK (laws_markInt64SS.cfg N) N (nthLoop (fnBody Try.f26) 0) laws_markInt64SS.sk2 laws_markInt64SS.xs2 d kn kx = laws_markInt64SS.l2 N d kn kx := by kernel_rfl
theorem laws_markInt64SS.i2 (N : Nat) : LoopsOk Try.prog (laws_markInt64SS.cfg N) (nthLoop (fnBody Try.f26) 0) := loopsL (l := []) (by kernel_rfl) trivial
theorem laws_markInt64SS.o2 (N : Nat) : LoopOk Try.prog (nthLoop (fnBody Try.f26) 0) (loopCon N laws_markInt64SS.sk2 laws_markInt64SS.xs2 (fun {R} => laws_markInt64SS.l2 (R := R) N)) := loop_ok (g := laws_markInt64SS.cfg N) tys_ok (laws_markInt64SS.cons N) mixed (laws_markInt64SS.i2 N) (fun d kn kx => laws_markInt64SS.h2 N d kn kx)
theorem laws_markInt64SS.ls (N : Nat) : LoopsOk Try.prog (laws_markInt64SS.cfg N) (fnBody Try.f26) := loopsL (l := [nthLoop (fnBody Try.f26) 0]) (by kernel_rfl) ⟨loopOne (L0 := loopCon N laws_markInt64SS.sk2 laws_markInt64SS.xs2 (fun {R} => laws_markInt64SS.l2 (R := R) N)) (id := 2) (by kernel_rfl) (by kernel_rfl) (laws_markInt64SS.o2 N), trivial⟩
theorem laws_markInt64SS.q2 {R R' : Type} {N n : Nat} {d} {k} {g : R → Option R'} : bindF (loopP (laws_markInt64SS.l2 N) n d k) g = loopP (laws_markInt64SS.l2 N) n d fun e => bindF (k e) g := bindF_loopP (fun d kn kx => by simp only [laws_markInt64SS.l2, bindF_ifB, bindF_bindO, bindF_pure, bindF_none, bindF_onSum]) n d k
theorem laws_markInt64SS.b (N : Nat) (x0 : den (.sl 29 (.sl 2 (.int .i64)))) (x1 : den (.int .i64)) : body (laws_markInt64SS.cfg N) N Try.f26 [.one, .one] [.iov, .v] [(false, .imm)] [⟨(.sl 29 (.sl 2 (.int .i64))), (.own (.own .imm)), x0⟩, ⟨(.int .i64), .imm, x1⟩] (fun r i => some (r, i)) = bindO (laws_markInt64SS N x0 x1) fun r => some ([⟨(.int .i64), .imm, r.1⟩], [⟨(.sl 29 (.sl 2 (.int .i64))), (.own (.own .imm)), r.2⟩]) := by
  show _ = bindF _ _
  conv => rhs; simp only [laws_markInt64SS, bindF_ifB, bindF_bindO, bindF_pure, bindF_none, bindF_onSum, laws_markInt64SS.q2]
  kernel_rfl
theorem laws_markInt64SS.ok (N : Nat) : ConOk Try.prog 26 [.one, .one] (laws_markInt64SS.con N) := by
  refine conOk_mk (g := laws_markInt64SS.cfg N) (N := N) (res := [(false, .imm)]) tys_ok (laws_markInt64SS.cons N) mixed Try.func26 (laws_markInt64SS.ls N) rfl rfl ?_
  intro ds R k y h
  cases ds with
  | nil => exact none_some h
  | cons d0 ds =>
  cases ds with
  | nil => exact none_some h
  | cons d1 ds =>
  cases ds with
  | cons _ _ => exact none_some h
  | nil =>
  have h0 : (castDm (.sl 29 (.sl 2 (.int .i64))) (.own (.own .imm)) d0 fun x0 => castDm (.int .i64) .imm d1 fun x1 => bindO (laws_markInt64SS N x0 x1) fun r => k [⟨(.int .i64), .imm, r.1⟩] [⟨(.sl 29 (.sl 2 (.int .i64))), (.own (.own .imm)), r.2⟩]) = some y := h
  clear h
  obtain ⟨x0, rfl, h1⟩ := castDm_eq h0
  obtain ⟨x1, rfl, h2⟩ := castDm_eq h1
  exact con_fin (laws_markInt64SS.b N x0 x1) h2
end Go.AE.F
