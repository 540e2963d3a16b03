/- The printed functions are what the program comes to: contracts. -/
import Derived.Test.YtdjhkphgnhbnjaaXCompMatchL0
namespace Go.AE.F
open Go.AE Go.Proofs
set_option maxRecDepth 100000
noncomputable def impl_size_Sint64.con (N : Nat) : Con := { modes := [.v], ptrs := [false], fn := fun ds k => match ds with | [d0] => castDm (.sl 2 (.int .i64)) .imm d0 fun x0 => bindO (impl_size_Sint64 N x0) fun r => k [⟨(.int .i64), .imm, r⟩] [] | _ => none }
noncomputable def impl_size_Sint64.cfg (N : Nat) : Cfg := { ty := tys, keep := [], flt := [], elm := [(24, (.own (.own .imm))), (29, (.own .imm)), (30, (.pr (.own .imm) .imm)), (31, (.pr (.own .imm) .imm)), (34, (.pr (.own .imm) .imm)), (45, (.own .imm)), (59, (.own .imm))], live := [], ord := [], con := [], loops := [], joins := [] }
theorem impl_size_Sint64.cons (N : Nat) : ConsOk Try.prog (impl_size_Sint64.cfg N).con := consOk_nil
theorem impl_size_Sint64.ls (N : Nat) : LoopsOk Try.prog (impl_size_Sint64.cfg N) (fnBody Try.f34) := loopsL (l := []) (by kernel_rfl) trivial
theorem impl_size_Sint64.b (N : Nat) (x0 : den (.sl 2 (.int .i64))) : body (impl_size_Sint64.cfg N) N Try.f34 [.one] [.v] [(false, .imm)] [⟨(.sl 2 (.int .i64)), .imm, x0⟩] (fun r i => some (r, i)) = bindO (impl_size_Sint64 N x0) fun r => some ([⟨(.int .i64), .imm, r⟩], []) := by
  show _ = bindF _ _
  conv => rhs; simp only [impl_size_Sint64, bindF_ifB, bindF_bindO, bindF_pure, bindF_none, bindF_onSum]
  kernel_rfl
theorem impl_size_Sint64.ok (N : Nat) : ConOk Try.prog 34 [.one] (impl_size_Sint64.con N) := by
  refine conOk_mk (g := impl_size_Sint64.cfg N) (N := N) (res := [(false, .imm)]) tys_ok (impl_size_Sint64.cons N) mixed Try.func34 (impl_size_Sint64.ls N) rfl rfl ?_
  intro ds R k y h
  cases ds with
  | nil => exact none_some h
  | cons d0 ds =>
  cases ds with
  | cons _ _ => exact none_some h
  | nil =>
  have h0 : (castDm (.sl 2 (.int .i64)) .imm d0 fun x0 => bindO (impl_size_Sint64 N x0) fun r => k [⟨(.int .i64), .imm, r⟩] []) = some y := h
  clear h
  obtain ⟨x0, rfl, h1⟩ := castDm_eq h0
  exact con_fin (impl_size_Sint64.b N x0) h1
noncomputable def impl_within.con (N : Nat) : Con := { modes := [.v, .v, .v], ptrs := [false], fn := fun ds k => match ds with | [d0, d1, d2] => castDm (.int .i64) .imm d0 fun x0 => castDm (.int .i64) .imm d1 fun x1 => castDm (.int .i64) .imm d2 fun x2 => bindO (impl_within N x0 x1 x2) fun r => k [⟨.bool, .imm, r⟩] [] | _ => none }
noncomputable def impl_within.cfg (N : Nat) : Cfg := { ty := tys, keep := [], flt := [], elm := [(24, (.own (.own .imm))), (29, (.own .imm)), (30, (.pr (.own .imm) .imm)), (31, (.pr (.own .imm) .imm)), (34, (.pr (.own .imm) .imm)), (45, (.own .imm)), (59, (.own .imm))], live := [], ord := [], con := [], loops := [], joins := [] }
theorem impl_within.cons (N : Nat) : ConsOk Try.prog (impl_within.cfg N).con := consOk_nil
theorem impl_within.ls (N : Nat) : LoopsOk Try.prog (impl_within.cfg N) (fnBody Try.f33) := loopsL (l := []) (by kernel_rfl) trivial
theorem impl_within.b (N : Nat) (x0 : den (.int .i64)) (x1 : den (.int .i64)) (x2 : den (.int .i64)) : body (impl_within.cfg N) N Try.f33 [.one, .one, .one] [.v, .v, .v] [(false, .imm)] [⟨(.int .i64), .imm, x0⟩, ⟨(.int .i64), .imm, x1⟩, ⟨(.int .i64), .imm, x2⟩] (fun r i => some (r, i)) = bindO (impl_within N x0 x1 x2) fun r => some ([⟨.bool, .imm, r⟩], []) := by
  show _ = bindF _ _
  conv => rhs; simp only [impl_within, bindF_ifB, bindF_bindO, bindF_pure, bindF_none, bindF_onSum]
  kernel_rfl
theorem impl_within.ok (N : Nat) : ConOk Try.prog 33 [.one, .one, .one] (impl_within.con N) := by
  refine conOk_mk (g := impl_within.cfg N) (N := N) (res := [(false, .imm)]) tys_ok (impl_within.cons N) mixed Try.func33 (impl_within.ls N) rfl rfl ?_
  intro ds R k y h
  cases ds with
  | nil => exact none_some h
  | cons d0 ds =>
  cases ds with
  | nil => exact none_some h
  | cons d1 ds =>
  cases ds with
  | nil => exact none_some h
  | cons d2 ds =>
  cases ds with
  | cons _ _ => exact none_some h
  | nil =>
  have h0 : (castDm (.int .i64) .imm d0 fun x0 => castDm (.int .i64) .imm d1 fun x1 => castDm (.int .i64) .imm d2 fun x2 => bindO (impl_within N x0 x1 x2) fun r => k [⟨.bool, .imm, r⟩] []) = some y := h
  clear h
  obtain ⟨x0, rfl, h1⟩ := castDm_eq h0
  obtain ⟨x1, rfl, h2⟩ := castDm_eq h1
  obtain ⟨x2, rfl, h3⟩ := castDm_eq h2
  exact con_fin (impl_within.b N x0 x1 x2) h3
noncomputable def impl_isPoint.con (N : Nat) : Con := { modes := [.v], ptrs := [false], fn := fun ds k => match ds with | [d0] => castDm (.int .i64) .imm d0 fun x0 => bindO (impl_isPoint N x0) fun r => k [⟨.bool, .imm, r⟩] [] | _ => none }
noncomputable def impl_isPoint.cfg (N : Nat) : Cfg := { ty := tys, keep := [4, 7], flt := [], elm := [(24, (.own (.own .imm))), (29, (.own .imm)), (30, (.pr (.own .imm) .imm)), (31, (.pr (.own .imm) .imm)), (34, (.pr (.own .imm) .imm)), (45, (.own .imm)), (59, (.own .imm))], live := [], ord := [], con := [((33, [.one, .one, .one]), impl_within.con N)], loops := [], joins := [] }
theorem impl_isPoint.cons (N : Nat) : ConsOk Try.prog (impl_isPoint.cfg N).con := (consOk_cons (hb33) (impl_within.ok N) consOk_nil)
theorem impl_isPoint.ls (N : Nat) : LoopsOk Try.prog (impl_isPoint.cfg N) (fnBody Try.f53) := loopsL (l := []) (by kernel_rfl) trivial
theorem impl_isPoint.b (N : Nat) (x0 : den (.int .i64)) : body (impl_isPoint.cfg N) N Try.f53 [.one] [.v] [(false, .imm)] [⟨(.int .i64), .imm, x0⟩] (fun r i => some (r, i)) = bindO (impl_isPoint N x0) fun r => some ([⟨.bool, .imm, r⟩], []) := by
  show _ = bindF _ _
  conv => rhs; simp only [impl_isPoint, bindF_ifB, bindF_bindO, bindF_pure, bindF_none, bindF_onSum]
  kernel_rfl
theorem impl_isPoint.ok (N : Nat) : ConOk Try.prog 53 [.one] (impl_isPoint.con N) := by
  refine conOk_mk (g := impl_isPoint.cfg N) (N := N) (res := [(false, .imm)]) tys_ok (impl_isPoint.cons N) mixed Try.func53 (impl_isPoint.ls N) rfl rfl ?_
  intro ds R k y h
  cases ds with
  | nil => exact none_some h
  | cons d0 ds =>
  cases ds with
  | cons _ _ => exact none_some h
  | nil =>
  have h0 : (castDm (.int .i64) .imm d0 fun x0 => bindO (impl_isPoint N x0) fun r => k [⟨.bool, .imm, r⟩] []) = some y := h
  clear h
  obtain ⟨x0, rfl, h1⟩ := castDm_eq h0
  exact con_fin (impl_isPoint.b N x0) h1
noncomputable def impl_ClassOf.con (N : Nat) : Con := { modes := [.v], ptrs := [false], fn := fun ds k => match ds with | [d0] => castDm (.int .i64) .imm d0 fun x0 => bindO (impl_ClassOf N x0) fun r => k [⟨(.int .i64), .imm, r⟩] [] | _ => none }
noncomputable def impl_ClassOf.cfg (N : Nat) : Cfg := { ty := tys, keep := [5, 20, 23, 27], flt := [], elm := [(24, (.own (.own .imm))), (29, (.own .imm)), (30, (.pr (.own .imm) .imm)), (31, (.pr (.own .imm) .imm)), (34, (.pr (.own .imm) .imm)), (45, (.own .imm)), (59, (.own .imm))], live := [], ord := [], con := [((53, [.one]), impl_isPoint.con N), ((33, [.one, .one, .one]), impl_within.con N)], loops := [], joins := [] }
theorem impl_ClassOf.cons (N : Nat) : ConsOk Try.prog (impl_ClassOf.cfg N).con := (consOk_cons (hb53) (impl_isPoint.ok N) (consOk_cons (hb33) (impl_within.ok N) consOk_nil))
theorem impl_ClassOf.ls (N : Nat) : LoopsOk Try.prog (impl_ClassOf.cfg N) (fnBody Try.f37) := loopsL (l := []) (by kernel_rfl) trivial
theorem impl_ClassOf.b (N : Nat) (x0 : den (.int .i64)) : body (impl_ClassOf.cfg N) N Try.f37 [.one] [.v] [(false, .imm)] [⟨(.int .i64), .imm, x0⟩] (fun r i => some (r, i)) = bindO (impl_ClassOf N x0) fun r => some ([⟨(.int .i64), .imm, r⟩], []) := by
  show _ = bindF _ _
  conv => rhs; simp only [impl_ClassOf, bindF_ifB, bindF_bindO, bindF_pure, bindF_none, bindF_onSum]
  kernel_rfl
theorem impl_ClassOf.ok (N : Nat) : ConOk Try.prog 37 [.one] (impl_ClassOf.con N) := by
  refine conOk_mk (g := impl_ClassOf.cfg N) (N := N) (res := [(false, .imm)]) tys_ok (impl_ClassOf.cons N) mixed Try.func37 (impl_ClassOf.ls N) rfl rfl ?_
  intro ds R k y h
  cases ds with
  | nil => exact none_some h
  | cons d0 ds =>
  cases ds with
  | cons _ _ => exact none_some h
  | nil =>
  have h0 : (castDm (.int .i64) .imm d0 fun x0 => bindO (impl_ClassOf N x0) fun r => k [⟨(.int .i64), .imm, r⟩] []) = some y := h
  clear h
  obtain ⟨x0, rfl, h1⟩ := castDm_eq h0
  exact con_fin (impl_ClassOf.b N x0) h1
noncomputable def impl_CandsRight_c1_c1.con (N : Nat) : Con := { modes := [.v], ptrs := [false], fn := fun ds k => match ds with | [d0] => castDm (.int .i64) .imm d0 fun x0 => bindO (impl_CandsRight_c1_c1 N x0) fun r => k [⟨.bool, .imm, r⟩] [] | _ => none }
noncomputable def impl_CandsRight_c1_c1.cfg (N : Nat) : Cfg := { ty := tys, keep := [4], flt := [], elm := [(24, (.own (.own .imm))), (29, (.own .imm)), (30, (.pr (.own .imm) .imm)), (31, (.pr (.own .imm) .imm)), (34, (.pr (.own .imm) .imm)), (45, (.own .imm)), (59, (.own .imm))], live := [], ord := [], con := [((37, [.one]), impl_ClassOf.con N)], loops := [], joins := [] }
theorem impl_CandsRight_c1_c1.cons (N : Nat) : ConsOk Try.prog (impl_CandsRight_c1_c1.cfg N).con := (consOk_cons (hb37) (impl_ClassOf.ok N) consOk_nil)
theorem impl_CandsRight_c1_c1.ls (N : Nat) : LoopsOk Try.prog (impl_CandsRight_c1_c1.cfg N) (fnBody Try.f36) := loopsL (l := []) (by kernel_rfl) trivial
theorem impl_CandsRight_c1_c1.b (N : Nat) (x0 : den (.int .i64)) : body (impl_CandsRight_c1_c1.cfg N) N Try.f36 [.one] [.v] [(false, .imm)] [⟨(.int .i64), .imm, x0⟩] (fun r i => some (r, i)) = bindO (impl_CandsRight_c1_c1 N x0) fun r => some ([⟨.bool, .imm, r⟩], []) := by
  show _ = bindF _ _
  conv => rhs; simp only [impl_CandsRight_c1_c1, bindF_ifB, bindF_bindO, bindF_pure, bindF_none, bindF_onSum]
  kernel_rfl
theorem impl_CandsRight_c1_c1.ok (N : Nat) : ConOk Try.prog 36 [.one] (impl_CandsRight_c1_c1.con N) := by
  refine conOk_mk (g := impl_CandsRight_c1_c1.cfg N) (N := N) (res := [(false, .imm)]) tys_ok (impl_CandsRight_c1_c1.cons N) mixed Try.func36 (impl_CandsRight_c1_c1.ls N) rfl rfl ?_
  intro ds R k y h
  cases ds with
  | nil => exact none_some h
  | cons d0 ds =>
  cases ds with
  | cons _ _ => exact none_some h
  | nil =>
  have h0 : (castDm (.int .i64) .imm d0 fun x0 => bindO (impl_CandsRight_c1_c1 N x0) fun r => k [⟨.bool, .imm, r⟩] []) = some y := h
  clear h
  obtain ⟨x0, rfl, h1⟩ := castDm_eq h0
  exact con_fin (impl_CandsRight_c1_c1.b N x0) h1
def slices_IndexFunc_Sint64_int64__impl_CandsRight_c1_c1.sk2 : Skel := ⟨[.pv (.sl 2 (.int .i64)), .fn 36 [], .dead, .dead, .dead, .dead, .dead, .pv (.int .i64), .pv (.int .i64), .dead, .dead, .dead, .dead, .dead, .dead, .dead, .dead, .dead, .dead], []⟩
def slices_IndexFunc_Sint64_int64__impl_CandsRight_c1_c1.xs2 : List XS := [⟨.exit 0, [], ⟨[.dead, .dead, .dead, .dead, .dead, .dead, .dead, .dead, .dead, .dead, .dead, .dead, .dead, .dead, .dead, .dead, .dead, .dead, .dead], []⟩⟩, ⟨.ret, [4], ⟨[.dead, .dead, .dead, .dead, .pv (.int .i64), .dead, .dead, .dead, .dead, .dead, .dead, .dead, .dead, .dead, .dead, .dead, .dead, .dead, .dead], []⟩⟩]
noncomputable def slices_IndexFunc_Sint64_int64__impl_CandsRight_c1_c1.con (N : Nat) : Con := { modes := [.v], ptrs := [false], fn := fun ds k => match ds with | [d0] => castDm (.sl 2 (.int .i64)) .imm d0 fun x0 => bindO (slices_IndexFunc_Sint64_int64__impl_CandsRight_c1_c1 N x0) fun r => k [⟨(.int .i64), .imm, r⟩] [] | _ => none }
noncomputable def slices_IndexFunc_Sint64_int64__impl_CandsRight_c1_c1.cfg (N : Nat) : Cfg := { ty := tys, keep := [16], flt := [], elm := [(24, (.own (.own .imm))), (29, (.own .imm)), (30, (.pr (.own .imm) .imm)), (31, (.pr (.own .imm) .imm)), (34, (.pr (.own .imm) .imm)), (45, (.own .imm)), (59, (.own .imm))], live := [(2, [0, 1, 7, 8])], ord := [], con := [((36, [.one]), impl_CandsRight_c1_c1.con N)], loops := [(2, loopCon N slices_IndexFunc_Sint64_int64__impl_CandsRight_c1_c1.sk2 slices_IndexFunc_Sint64_int64__impl_CandsRight_c1_c1.xs2 (fun {R} => slices_IndexFunc_Sint64_int64__impl_CandsRight_c1_c1.l2 (R := R) N))], joins := [] }
theorem slices_IndexFunc_Sint64_int64__impl_CandsRight_c1_c1.cons (N : Nat) : ConsOk Try.prog (slices_IndexFunc_Sint64_int64__impl_CandsRight_c1_c1.cfg N).con := (consOk_cons (hb36) (impl_CandsRight_c1_c1.ok N) consOk_nil)
theorem slices_IndexFunc_Sint64_int64__impl_CandsRight_c1_c1.h2 {R : Type} (N : Nat) (d : slices_IndexFunc_Sint64_int64__impl_CandsRight_c1_c1.sk2.D) (kn : slices_IndexFunc_Sint64_int64__impl_CandsRight_c1_c1.sk2.D → Option R) (kx : XD slices_IndexFunc_Sint64_int64__impl_CandsRight_c1_c1.xs2 → Option R) : roundK (slices_IndexFunc_Sint64_int64__impl_CandsRight_c1_c1.cfg N) N (nthLoop (fnBody Try.f52) 0) slices_IndexFunc_Sint64_int64__impl_CandsRight_c1_c1.sk2 slices_IndexFunc_Sint64_int64__impl_CandsRight_c1_c1.xs2 d kn kx = slices_IndexFunc_Sint64_int64__impl_CandsRight_c1_c1.l2 N d kn kx := by kernel_rfl
theorem slices_IndexFunc_Sint64_int64__impl_CandsRight_c1_c1.i2 (N : Nat) : LoopsOk Try.prog (slices_IndexFunc_Sint64_int64__impl_CandsRight_c1_c1.cfg N) (nthLoop (fnBody Try.f52) 0) := loopsL (l := []) (by kernel_rfl) trivial
theorem slices_IndexFunc_Sint64_int64__impl_CandsRight_c1_c1.o2 (N : Nat) : LoopOk Try.prog (nthLoop (fnBody Try.f52) 0) (loopCon N slices_IndexFunc_Sint64_int64__impl_CandsRight_c1_c1.sk2 slices_IndexFunc_Sint64_int64__impl_CandsRight_c1_c1.xs2 (fun {R} => slices_IndexFunc_Sint64_int64__impl_CandsRight_c1_c1.l2 (R := R) N)) := loop_ok (g := slices_IndexFunc_Sint64_int64__impl_CandsRight_c1_c1.cfg N) tys_ok (slices_IndexFunc_Sint64_int64__impl_CandsRight_c1_c1.cons N) mixed (slices_IndexFunc_Sint64_int64__impl_CandsRight_c1_c1.i2 N) (fun d kn kx => slices_IndexFunc_Sint64_int64__impl_CandsRight_c1_c1.h2 N d kn kx)
theorem slices_IndexFunc_Sint64_int64__impl_CandsRight_c1_c1.ls (N : Nat) : LoopsOk Try.prog (slices_IndexFunc_Sint64_int64__impl_CandsRight_c1_c1.cfg N) (fnBody Try.f52) := loopsL (l := [nthLoop (fnBody Try.f52) 0]) (by kernel_rfl) ⟨loopOne (L0 := loopCon N slices_IndexFunc_Sint64_int64__impl_CandsRight_c1_c1.sk2 slices_IndexFunc_Sint64_int64__impl_CandsRight_c1_c1.xs2 (fun {R} => slices_IndexFunc_Sint64_int64__impl_CandsRight_c1_c1.l2 (R := R) N)) (id := 2) (by kernel_rfl) (by kernel_rfl) (slices_IndexFunc_Sint64_int64__impl_CandsRight_c1_c1.o2 N), trivial⟩
theorem slices_IndexFunc_Sint64_int64__impl_CandsRight_c1_c1.q2 {R R' : Type} {N n : Nat} {d} {k} {g : R → Option R'} : bindF (loopP (slices_IndexFunc_Sint64_int64__impl_CandsRight_c1_c1.l2 N) n d k) g = loopP (slices_IndexFunc_Sint64_int64__impl_CandsRight_c1_c1.l2 N) n d fun e => bindF (k e) g := bindF_loopP (fun d kn kx => by simp only [slices_IndexFunc_Sint64_int64__impl_CandsRight_c1_c1.l2, bindF_ifB, bindF_bindO, bindF_pure, bindF_none, bindF_onSum]) n d k
theorem slices_IndexFunc_Sint64_int64__impl_CandsRight_c1_c1.b (N : Nat) (x0 : den (.sl 2 (.int .i64))) : body (slices_IndexFunc_Sint64_int64__impl_CandsRight_c1_c1.cfg N) N Try.f52 [.one, .fn 36 0] [.v] [(false, .imm)] [⟨(.sl 2 (.int .i64)), .imm, x0⟩] (fun r i => some (r, i)) = bindO (slices_IndexFunc_Sint64_int64__impl_CandsRight_c1_c1 N x0) fun r => some ([⟨(.int .i64), .imm, r⟩], []) := by
  show _ = bindF _ _
  conv => rhs; simp only [slices_IndexFunc_Sint64_int64__impl_CandsRight_c1_c1, bindF_ifB, bindF_bindO, bindF_pure, bindF_none, bindF_onSum, slices_IndexFunc_Sint64_int64__impl_CandsRight_c1_c1.q2]
  kernel_rfl
theorem slices_IndexFunc_Sint64_int64__impl_CandsRight_c1_c1.ok (N : Nat) : ConOk Try.prog 52 [.one, .fn 36 0] (slices_IndexFunc_Sint64_int64__impl_CandsRight_c1_c1.con N) := by
  refine conOk_mk (g := slices_IndexFunc_Sint64_int64__impl_CandsRight_c1_c1.cfg N) (N := N) (res := [(false, .imm)]) tys_ok (slices_IndexFunc_Sint64_int64__impl_CandsRight_c1_c1.cons N) mixed Try.func52 (slices_IndexFunc_Sint64_int64__impl_CandsRight_c1_c1.ls N) rfl rfl ?_
  intro ds R k y h
  cases ds with
  | nil => exact none_some h
  | cons d0 ds =>
  cases ds with
  | cons _ _ => exact none_some h
  | nil =>
  have h0 : (castDm (.sl 2 (.int .i64)) .imm d0 fun x0 => bindO (slices_IndexFunc_Sint64_int64__impl_CandsRight_c1_c1 N x0) fun r => k [⟨(.int .i64), .imm, r⟩] []) = some y := h
  clear h
  obtain ⟨x0, rfl, h1⟩ := castDm_eq h0
  exact con_fin (slices_IndexFunc_Sint64_int64__impl_CandsRight_c1_c1.b N x0) h1
noncomputable def slices_ContainsFunc_Sint64_int64__impl_CandsRight_c1_c1.con (N : Nat) : Con := { modes := [.v], ptrs := [false], fn := fun ds k => match ds with | [d0] => castDm (.sl 2 (.int .i64)) .imm d0 fun x0 => bindO (slices_ContainsFunc_Sint64_int64__impl_CandsRight_c1_c1 N x0) fun r => k [⟨.bool, .imm, r⟩] [] | _ => none }
noncomputable def slices_ContainsFunc_Sint64_int64__impl_CandsRight_c1_c1.cfg (N : Nat) : Cfg := { ty := tys, keep := [7], flt := [], elm := [(24, (.own (.own .imm))), (29, (.own .imm)), (30, (.pr (.own .imm) .imm)), (31, (.pr (.own .imm) .imm)), (34, (.pr (.own .imm) .imm)), (45, (.own .imm)), (59, (.own .imm))], live := [], ord := [], con := [((52, [.one, .fn 36 0]), slices_IndexFunc_Sint64_int64__impl_CandsRight_c1_c1.con N)], loops := [], joins := [] }
theorem slices_ContainsFunc_Sint64_int64__impl_CandsRight_c1_c1.cons (N : Nat) : ConsOk Try.prog (slices_ContainsFunc_Sint64_int64__impl_CandsRight_c1_c1.cfg N).con := (consOk_cons (hb52) (slices_IndexFunc_Sint64_int64__impl_CandsRight_c1_c1.ok N) consOk_nil)
theorem slices_ContainsFunc_Sint64_int64__impl_CandsRight_c1_c1.ls (N : Nat) : LoopsOk Try.prog (slices_ContainsFunc_Sint64_int64__impl_CandsRight_c1_c1.cfg N) (fnBody Try.f35) := loopsL (l := []) (by kernel_rfl) trivial
theorem slices_ContainsFunc_Sint64_int64__impl_CandsRight_c1_c1.b (N : Nat) (x0 : den (.sl 2 (.int .i64))) : body (slices_ContainsFunc_Sint64_int64__impl_CandsRight_c1_c1.cfg N) N Try.f35 [.one, .fn 36 0] [.v] [(false, .imm)] [⟨(.sl 2 (.int .i64)), .imm, x0⟩] (fun r i => some (r, i)) = bindO (slices_ContainsFunc_Sint64_int64__impl_CandsRight_c1_c1 N x0) fun r => some ([⟨.bool, .imm, r⟩], []) := by
  show _ = bindF _ _
  conv => rhs; simp only [slices_ContainsFunc_Sint64_int64__impl_CandsRight_c1_c1, bindF_ifB, bindF_bindO, bindF_pure, bindF_none, bindF_onSum]
  kernel_rfl
theorem slices_ContainsFunc_Sint64_int64__impl_CandsRight_c1_c1.ok (N : Nat) : ConOk Try.prog 35 [.one, .fn 36 0] (slices_ContainsFunc_Sint64_int64__impl_CandsRight_c1_c1.con N) := by
  refine conOk_mk (g := slices_ContainsFunc_Sint64_int64__impl_CandsRight_c1_c1.cfg N) (N := N) (res := [(false, .imm)]) tys_ok (slices_ContainsFunc_Sint64_int64__impl_CandsRight_c1_c1.cons N) mixed Try.func35 (slices_ContainsFunc_Sint64_int64__impl_CandsRight_c1_c1.ls N) rfl rfl ?_
  intro ds R k y h
  cases ds with
  | nil => exact none_some h
  | cons d0 ds =>
  cases ds with
  | cons _ _ => exact none_some h
  | nil =>
  have h0 : (castDm (.sl 2 (.int .i64)) .imm d0 fun x0 => bindO (slices_ContainsFunc_Sint64_int64__impl_CandsRight_c1_c1 N x0) fun r => k [⟨.bool, .imm, r⟩] []) = some y := h
  clear h
  obtain ⟨x0, rfl, h1⟩ := castDm_eq h0
  exact con_fin (slices_ContainsFunc_Sint64_int64__impl_CandsRight_c1_c1.b N x0) h1
noncomputable def impl_CandsRight_c1.con (N : Nat) : Con := { modes := [.v], ptrs := [false], fn := fun ds k => match ds with | [d0] => castDm (.sl 2 (.int .i64)) .imm d0 fun x0 => bindO (impl_CandsRight_c1 N x0) fun r => k [⟨.bool, .imm, r⟩] [] | _ => none }
noncomputable def impl_CandsRight_c1.cfg (N : Nat) : Cfg := { ty := tys, keep := [4, 5, 9], flt := [], elm := [(24, (.own (.own .imm))), (29, (.own .imm)), (30, (.pr (.own .imm) .imm)), (31, (.pr (.own .imm) .imm)), (34, (.pr (.own .imm) .imm)), (45, (.own .imm)), (59, (.own .imm))], live := [], ord := [], con := [((34, [.one]), impl_size_Sint64.con N), ((33, [.one, .one, .one]), impl_within.con N), ((35, [.one, .fn 36 0]), slices_ContainsFunc_Sint64_int64__impl_CandsRight_c1_c1.con N)], loops := [], joins := [] }
theorem impl_CandsRight_c1.cons (N : Nat) : ConsOk Try.prog (impl_CandsRight_c1.cfg N).con := (consOk_cons (hb34) (impl_size_Sint64.ok N) (consOk_cons (hb33) (impl_within.ok N) (consOk_cons (hb35) (slices_ContainsFunc_Sint64_int64__impl_CandsRight_c1_c1.ok N) consOk_nil)))
theorem impl_CandsRight_c1.ls (N : Nat) : LoopsOk Try.prog (impl_CandsRight_c1.cfg N) (fnBody Try.f32) := loopsL (l := []) (by kernel_rfl) trivial
theorem impl_CandsRight_c1.b (N : Nat) (x0 : den (.sl 2 (.int .i64))) : body (impl_CandsRight_c1.cfg N) N Try.f32 [.one] [.v] [(false, .imm)] [⟨(.sl 2 (.int .i64)), .imm, x0⟩] (fun r i => some (r, i)) = bindO (impl_CandsRight_c1 N x0) fun r => some ([⟨.bool, .imm, r⟩], []) := by
  show _ = bindF _ _
  conv => rhs; simp only [impl_CandsRight_c1, bindF_ifB, bindF_bindO, bindF_pure, bindF_none, bindF_onSum]
  kernel_rfl
theorem impl_CandsRight_c1.ok (N : Nat) : ConOk Try.prog 32 [.one] (impl_CandsRight_c1.con N) := by
  refine conOk_mk (g := impl_CandsRight_c1.cfg N) (N := N) (res := [(false, .imm)]) tys_ok (impl_CandsRight_c1.cons N) mixed Try.func32 (impl_CandsRight_c1.ls N) rfl rfl ?_
  intro ds R k y h
  cases ds with
  | nil => exact none_some h
  | cons d0 ds =>
  cases ds with
  | cons _ _ => exact none_some h
  | nil =>
  have h0 : (castDm (.sl 2 (.int .i64)) .imm d0 fun x0 => bindO (impl_CandsRight_c1 N x0) fun r => k [⟨.bool, .imm, r⟩] []) = some y := h
  clear h
  obtain ⟨x0, rfl, h1⟩ := castDm_eq h0
  exact con_fin (impl_CandsRight_c1.b N x0) h1
def slices_IndexFunc_S_Sint64__Sint64__impl_CandsRight_c1.sk2 : Skel := ⟨[.pv (.sl 29 (.sl 2 (.int .i64))), .fn 32 [], .dead, .dead, .dead, .dead, .dead, .pv (.int .i64), .pv (.int .i64), .dead, .dead, .dead, .dead, .dead, .dead, .dead, .dead, .dead, .dead], []⟩
def slices_IndexFunc_S_Sint64__Sint64__impl_CandsRight_c1.xs2 : List XS := [⟨.exit 0, [], ⟨[.dead, .dead, .dead, .dead, .dead, .dead, .dead, .dead, .dead, .dead, .dead, .dead, .dead, .dead, .dead, .dead, .dead, .dead, .dead], []⟩⟩, ⟨.ret, [4], ⟨[.dead, .dead, .dead, .dead, .pv (.int .i64), .dead, .dead, .dead, .dead, .dead, .dead, .dead, .dead, .dead, .dead, .dead, .dead, .dead, .dead], []⟩⟩]
noncomputable def slices_IndexFunc_S_Sint64__Sint64__impl_CandsRight_c1.con (N : Nat) : Con := { modes := [.v], ptrs := [false], fn := fun ds k => match ds with | [d0] => castDm (.sl 29 (.sl 2 (.int .i64))) .imm d0 fun x0 => bindO (slices_IndexFunc_S_Sint64__Sint64__impl_CandsRight_c1 N x0) fun r => k [⟨(.int .i64), .imm, r⟩] [] | _ => none }
noncomputable def slices_IndexFunc_S_Sint64__Sint64__impl_CandsRight_c1.cfg (N : Nat) : Cfg := { ty := tys, keep := [16], flt := [], elm := [(24, (.own (.own .imm))), (29, (.own .imm)), (30, (.pr (.own .imm) .imm)), (31, (.pr (.own .imm) .imm)), (34, (.pr (.own .imm) .imm)), (45, (.own .imm)), (59, (.own .imm))], live := [(2, [0, 1, 7, 8])], ord := [], con := [((32, [.one]), impl_CandsRight_c1.con N)], loops := [(2, loopCon N slices_IndexFunc_S_Sint64__Sint64__impl_CandsRight_c1.sk2 slices_IndexFunc_S_Sint64__Sint64__impl_CandsRight_c1.xs2 (fun {R} => slices_IndexFunc_S_Sint64__Sint64__impl_CandsRight_c1.l2 (R := R) N))], joins := [] }
theorem slices_IndexFunc_S_Sint64__Sint64__impl_CandsRight_c1.cons (N : Nat) : ConsOk Try.prog (slices_IndexFunc_S_Sint64__Sint64__impl_CandsRight_c1.cfg N).con := (consOk_cons (hb32) (impl_CandsRight_c1.ok N) consOk_nil)
theorem slices_IndexFunc_S_Sint64__Sint64__impl_CandsRight_c1.h2 {R : Type} (N : Nat) (d : slices_IndexFunc_S_Sint64__Sint64__impl_CandsRight_c1.sk2.D) (kn : slices_IndexFunc_S_Sint64__Sint64__impl_CandsRight_c1.sk2.D → Option R) (kx : XD slices_IndexFunc_S_Sint64__Sint64__impl_CandsRight_c1.xs2 → Option R) : roundK (slices_IndexFunc_S_Sint64__Sint64__impl_CandsRight_c1.cfg N) N (nthLoop (fnBody Try.f51) 0) slices_IndexFunc_S_Sint64__Sint64__impl_CandsRight_c1.sk2 slices_IndexFunc_S_Sint64__Sint64__impl_CandsRight_c1.xs2 d kn kx = slices_IndexFunc_S_Sint64__Sint64__impl_CandsRight_c1.l2 N d kn kx := by kernel_rfl
theorem slices_IndexFunc_S_Sint64__Sint64__impl_CandsRight_c1.i2 (N : Nat) : LoopsOk Try.prog (slices_IndexFunc_S_Sint64__Sint64__impl_CandsRight_c1.cfg N) (nthLoop (fnBody Try.f51) 0) := loopsL (l := []) (by kernel_rfl) trivial
theorem slices_IndexFunc_S_Sint64__Sint64__impl_CandsRight_c1.o2 (N : Nat) : LoopOk Try.prog (nthLoop (fnBody Try.f51) 0) (loopCon N slices_IndexFunc_S_Sint64__Sint64__impl_CandsRight_c1.sk2 slices_IndexFunc_S_Sint64__Sint64__impl_CandsRight_c1.xs2 (fun {R} => slices_IndexFunc_S_Sint64__Sint64__impl_CandsRight_c1.l2 (R := R) N)) := loop_ok (g := slices_IndexFunc_S_Sint64__Sint64__impl_CandsRight_c1.cfg N) tys_ok (slices_IndexFunc_S_Sint64__Sint64__impl_CandsRight_c1.cons N) mixed (slices_IndexFunc_S_Sint64__Sint64__impl_CandsRight_c1.i2 N) (fun d kn kx => slices_IndexFunc_S_Sint64__Sint64__impl_CandsRight_c1.h2 N d kn kx)
theorem slices_IndexFunc_S_Sint64__Sint64__impl_CandsRight_c1.ls (N : Nat) : LoopsOk Try.prog (slices_IndexFunc_S_Sint64__Sint64__impl_CandsRight_c1.cfg N) (fnBody Try.f51) := loopsL (l := [nthLoop (fnBody Try.f51) 0]) (by kernel_rfl) ⟨loopOne (L0 := loopCon N slices_IndexFunc_S_Sint64__Sint64__impl_CandsRight_c1.sk2 slices_IndexFunc_S_Sint64__Sint64__impl_CandsRight_c1.xs2 (fun {R} => slices_IndexFunc_S_Sint64__Sint64__impl_CandsRight_c1.l2 (R := R) N)) (id := 2) (by kernel_rfl) (by kernel_rfl) (slices_IndexFunc_S_Sint64__Sint64__impl_CandsRight_c1.o2 N), trivial⟩
theorem slices_IndexFunc_S_Sint64__Sint64__impl_CandsRight_c1.q2 {R R' : Type} {N n : Nat} {d} {k} {g : R → Option R'} : bindF (loopP (slices_IndexFunc_S_Sint64__Sint64__impl_CandsRight_c1.l2 N) n d k) g = loopP (slices_IndexFunc_S_Sint64__Sint64__impl_CandsRight_c1.l2 N) n d fun e => bindF (k e) g := bindF_loopP (fun d kn kx => by simp only [slices_IndexFunc_S_Sint64__Sint64__impl_CandsRight_c1.l2, bindF_ifB, bindF_bindO, bindF_pure, bindF_none, bindF_onSum]) n d k
theorem slices_IndexFunc_S_Sint64__Sint64__impl_CandsRight_c1.b (N : Nat) (x0 : den (.sl 29 (.sl 2 (.int .i64)))) : body (slices_IndexFunc_S_Sint64__Sint64__impl_CandsRight_c1.cfg N) N Try.f51 [.one, .fn 32 0] [.v] [(false, .imm)] [⟨(.sl 29 (.sl 2 (.int .i64))), .imm, x0⟩] (fun r i => some (r, i)) = bindO (slices_IndexFunc_S_Sint64__Sint64__impl_CandsRight_c1 N x0) fun r => some ([⟨(.int .i64), .imm, r⟩], []) := by
  show _ = bindF _ _
  conv => rhs; simp only [slices_IndexFunc_S_Sint64__Sint64__impl_CandsRight_c1, bindF_ifB, bindF_bindO, bindF_pure, bindF_none, bindF_onSum, slices_IndexFunc_S_Sint64__Sint64__impl_CandsRight_c1.q2]
  kernel_rfl
theorem slices_IndexFunc_S_Sint64__Sint64__impl_CandsRight_c1.ok (N : Nat) : ConOk Try.prog 51 [.one, .fn 32 0] (slices_IndexFunc_S_Sint64__Sint64__impl_CandsRight_c1.con N) := by
  refine conOk_mk (g := slices_IndexFunc_S_Sint64__Sint64__impl_CandsRight_c1.cfg N) (N := N) (res := [(false, .imm)]) tys_ok (slices_IndexFunc_S_Sint64__Sint64__impl_CandsRight_c1.cons N) mixed Try.func51 (slices_IndexFunc_S_Sint64__Sint64__impl_CandsRight_c1.ls N) rfl rfl ?_
  intro ds R k y h
  cases ds with
  | nil => exact none_some h
  | cons d0 ds =>
  cases ds with
  | cons _ _ => exact none_some h
  | nil =>
  have h0 : (castDm (.sl 29 (.sl 2 (.int .i64))) .imm d0 fun x0 => bindO (slices_IndexFunc_S_Sint64__Sint64__impl_CandsRight_c1 N x0) fun r => k [⟨(.int .i64), .imm, r⟩] []) = some y := h
  clear h
  obtain ⟨x0, rfl, h1⟩ := castDm_eq h0
  exact con_fin (slices_IndexFunc_S_Sint64__Sint64__impl_CandsRight_c1.b N x0) h1
noncomputable def slices_ContainsFunc_S_Sint64__Sint64__impl_CandsRight_c1.con (N : Nat) : Con := { modes := [.v], ptrs := [false], fn := fun ds k => match ds with | [d0] => castDm (.sl 29 (.sl 2 (.int .i64))) .imm d0 fun x0 => bindO (slices_ContainsFunc_S_Sint64__Sint64__impl_CandsRight_c1 N x0) fun r => k [⟨.bool, .imm, r⟩] [] | _ => none }
noncomputable def slices_ContainsFunc_S_Sint64__Sint64__impl_CandsRight_c1.cfg (N : Nat) : Cfg := { ty := tys, keep := [7], flt := [], elm := [(24, (.own (.own .imm))), (29, (.own .imm)), (30, (.pr (.own .imm) .imm)), (31, (.pr (.own .imm) .imm)), (34, (.pr (.own .imm) .imm)), (45, (.own .imm)), (59, (.own .imm))], live := [], ord := [], con := [((51, [.one, .fn 32 0]), slices_IndexFunc_S_Sint64__Sint64__impl_CandsRight_c1.con N)], loops := [], joins := [] }
theorem slices_ContainsFunc_S_Sint64__Sint64__impl_CandsRight_c1.cons (N : Nat) : ConsOk Try.prog (slices_ContainsFunc_S_Sint64__Sint64__impl_CandsRight_c1.cfg N).con := (consOk_cons (hb51) (slices_IndexFunc_S_Sint64__Sint64__impl_CandsRight_c1.ok N) consOk_nil)
theorem slices_ContainsFunc_S_Sint64__Sint64__impl_CandsRight_c1.ls (N : Nat) : LoopsOk Try.prog (slices_ContainsFunc_S_Sint64__Sint64__impl_CandsRight_c1.cfg N) (fnBody Try.f31) := loopsL (l := []) (by kernel_rfl) trivial
theorem slices_ContainsFunc_S_Sint64__Sint64__impl_CandsRight_c1.b (N : Nat) (x0 : den (.sl 29 (.sl 2 (.int .i64)))) : body (slices_ContainsFunc_S_Sint64__Sint64__impl_CandsRight_c1.cfg N) N Try.f31 [.one, .fn 32 0] [.v] [(false, .imm)] [⟨(.sl 29 (.sl 2 (.int .i64))), .imm, x0⟩] (fun r i => some (r, i)) = bindO (slices_ContainsFunc_S_Sint64__Sint64__impl_CandsRight_c1 N x0) fun r => some ([⟨.bool, .imm, r⟩], []) := by
  show _ = bindF _ _
  conv => rhs; simp only [slices_ContainsFunc_S_Sint64__Sint64__impl_CandsRight_c1, bindF_ifB, bindF_bindO, bindF_pure, bindF_none, bindF_onSum]
  kernel_rfl
theorem slices_ContainsFunc_S_Sint64__Sint64__impl_CandsRight_c1.ok (N : Nat) : ConOk Try.prog 31 [.one, .fn 32 0] (slices_ContainsFunc_S_Sint64__Sint64__impl_CandsRight_c1.con N) := by
  refine conOk_mk (g := slices_ContainsFunc_S_Sint64__Sint64__impl_CandsRight_c1.cfg N) (N := N) (res := [(false, .imm)]) tys_ok (slices_ContainsFunc_S_Sint64__Sint64__impl_CandsRight_c1.cons N) mixed Try.func31 (slices_ContainsFunc_S_Sint64__Sint64__impl_CandsRight_c1.ls N) rfl rfl ?_
  intro ds R k y h
  cases ds with
  | nil => exact none_some h
  | cons d0 ds =>
  cases ds with
  | cons _ _ => exact none_some h
  | nil =>
  have h0 : (castDm (.sl 29 (.sl 2 (.int .i64))) .imm d0 fun x0 => bindO (slices_ContainsFunc_S_Sint64__Sint64__impl_CandsRight_c1 N x0) fun r => k [⟨.bool, .imm, r⟩] []) = some y := h
  clear h
  obtain ⟨x0, rfl, h1⟩ := castDm_eq h0
  exact con_fin (slices_ContainsFunc_S_Sint64__Sint64__impl_CandsRight_c1.b N x0) h1
noncomputable def impl_CandsRight.con (N : Nat) : Con := { modes := [.v], ptrs := [false], fn := fun ds k => match ds with | [d0] => castDm (.sl 29 (.sl 2 (.int .i64))) .imm d0 fun x0 => bindO (impl_CandsRight N x0) fun r => k [⟨.bool, .imm, r⟩] [] | _ => none }
noncomputable def impl_CandsRight.cfg (N : Nat) : Cfg := { ty := tys, keep := [8], flt := [], elm := [(24, (.own (.own .imm))), (29, (.own .imm)), (30, (.pr (.own .imm) .imm)), (31, (.pr (.own .imm) .imm)), (34, (.pr (.own .imm) .imm)), (45, (.own .imm)), (59, (.own .imm))], live := [], ord := [], con := [((31, [.one, .fn 32 0]), slices_ContainsFunc_S_Sint64__Sint64__impl_CandsRight_c1.con N)], loops := [], joins := [] }
theorem impl_CandsRight.cons (N : Nat) : ConsOk Try.prog (impl_CandsRight.cfg N).con := (consOk_cons (hb31) (slices_ContainsFunc_S_Sint64__Sint64__impl_CandsRight_c1.ok N) consOk_nil)
theorem impl_CandsRight.ls (N : Nat) : LoopsOk Try.prog (impl_CandsRight.cfg N) (fnBody Try.f12) := loopsL (l := []) (by kernel_rfl) trivial
theorem impl_CandsRight.b (N : Nat) (x0 : den (.sl 29 (.sl 2 (.int .i64)))) : body (impl_CandsRight.cfg N) N Try.f12 [.one] [.v] [(false, .imm)] [⟨(.sl 29 (.sl 2 (.int .i64))), .imm, x0⟩] (fun r i => some (r, i)) = bindO (impl_CandsRight N x0) fun r => some ([⟨.bool, .imm, r⟩], []) := by
  show _ = bindF _ _
  conv => rhs; simp only [impl_CandsRight, bindF_ifB, bindF_bindO, bindF_pure, bindF_none, bindF_onSum]
  kernel_rfl
theorem impl_CandsRight.ok (N : Nat) : ConOk Try.prog 12 [.one] (impl_CandsRight.con N) := by
  refine conOk_mk (g := impl_CandsRight.cfg N) (N := N) (res := [(false, .imm)]) tys_ok (impl_CandsRight.cons N) mixed Try.func12 (impl_CandsRight.ls N) rfl rfl ?_
  intro ds R k y h
  cases ds with
  | nil => exact none_some h
  | cons d0 ds =>
  cases ds with
  | cons _ _ => exact none_some h
  | nil =>
  have h0 : (castDm (.sl 29 (.sl 2 (.int .i64))) .imm d0 fun x0 => bindO (impl_CandsRight N x0) fun r => k [⟨.bool, .imm, r⟩] []) = some y := h
  clear h
  obtain ⟨x0, rfl, h1⟩ := castDm_eq h0
  exact con_fin (impl_CandsRight.b N x0) h1
noncomputable def impl_PointsRight_c1.con (N : Nat) : Con := { modes := [.v], ptrs := [false], fn := fun ds k => match ds with | [d0] => castDm (.int .i64) .imm d0 fun x0 => bindO (impl_PointsRight_c1 N x0) fun r => k [⟨.bool, .imm, r⟩] [] | _ => none }
noncomputable def impl_PointsRight_c1.cfg (N : Nat) : Cfg := { ty := tys, keep := [4], flt := [], elm := [(24, (.own (.own .imm))), (29, (.own .imm)), (30, (.pr (.own .imm) .imm)), (31, (.pr (.own .imm) .imm)), (34, (.pr (.own .imm) .imm)), (45, (.own .imm)), (59, (.own .imm))], live := [], ord := [], con := [((53, [.one]), impl_isPoint.con N)], loops := [], joins := [] }
theorem impl_PointsRight_c1.cons (N : Nat) : ConsOk Try.prog (impl_PointsRight_c1.cfg N).con := (consOk_cons (hb53) (impl_isPoint.ok N) consOk_nil)
theorem impl_PointsRight_c1.ls (N : Nat) : LoopsOk Try.prog (impl_PointsRight_c1.cfg N) (fnBody Try.f61) := loopsL (l := []) (by kernel_rfl) trivial
theorem impl_PointsRight_c1.b (N : Nat) (x0 : den (.int .i64)) : body (impl_PointsRight_c1.cfg N) N Try.f61 [.one] [.v] [(false, .imm)] [⟨(.int .i64), .imm, x0⟩] (fun r i => some (r, i)) = bindO (impl_PointsRight_c1 N x0) fun r => some ([⟨.bool, .imm, r⟩], []) := by
  show _ = bindF _ _
  conv => rhs; simp only [impl_PointsRight_c1, bindF_ifB, bindF_bindO, bindF_pure, bindF_none, bindF_onSum]
  kernel_rfl
theorem impl_PointsRight_c1.ok (N : Nat) : ConOk Try.prog 61 [.one] (impl_PointsRight_c1.con N) := by
  refine conOk_mk (g := impl_PointsRight_c1.cfg N) (N := N) (res := [(false, .imm)]) tys_ok (impl_PointsRight_c1.cons N) mixed Try.func61 (impl_PointsRight_c1.ls N) rfl rfl ?_
  intro ds R k y h
  cases ds with
  | nil => exact none_some h
  | cons d0 ds =>
  cases ds with
  | cons _ _ => exact none_some h
  | nil =>
  have h0 : (castDm (.int .i64) .imm d0 fun x0 => bindO (impl_PointsRight_c1 N x0) fun r => k [⟨.bool, .imm, r⟩] []) = some y := h
  clear h
  obtain ⟨x0, rfl, h1⟩ := castDm_eq h0
  exact con_fin (impl_PointsRight_c1.b N x0) h1
end Go.AE.F
