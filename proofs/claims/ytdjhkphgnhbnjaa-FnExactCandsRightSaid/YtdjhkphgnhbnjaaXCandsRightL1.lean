/- The printed functions are what the program comes to: contracts. -/
import Derived.Test.YtdjhkphgnhbnjaaXCandsRightL0
namespace Go.AE.F
open Go.AE Go.Proofs
set_option maxRecDepth 100000
def slices_IndexFunc_Sint64_int64__impl_CandsRight_c1_c1.sk2 : Skel := ⟨[.pv (.sl 2 (.int .i64)), .fn 36 [], .dead, .dead, .dead, .dead, .dead, .pv (.int .i64), .pv (.int .i64), .dead, .dead, .dead, .dead, .dead, .dead, .dead, .dead, .dead, .dead], []⟩
def slices_IndexFunc_Sint64_int64__impl_CandsRight_c1_c1.xs2 : List XS := [⟨.exit 0, [], ⟨[.dead, .dead, .dead, .dead, .dead, .dead, .dead, .dead, .dead, .dead, .dead, .dead, .dead, .dead, .dead, .dead, .dead, .dead, .dead], []⟩⟩, ⟨.ret, [4], ⟨[.dead, .dead, .dead, .dead, .pv (.int .i64), .dead, .dead, .dead, .dead, .dead, .dead, .dead, .dead, .dead, .dead, .dead, .dead, .dead, .dead], []⟩⟩]
def slices_IndexFunc_Sint64_int64__impl_CandsRight_c1_c1.con (N : Nat) : Con := { modes := [.v], ptrs := [false], fn := fun ds k => match ds with | [d0] => castDm (.sl 2 (.int .i64)) .imm d0 fun x0 => bindO (slices_IndexFunc_Sint64_int64__impl_CandsRight_c1_c1 N x0) fun r => k [⟨(.int .i64), .imm, r⟩] [] | _ => none }
def slices_IndexFunc_Sint64_int64__impl_CandsRight_c1_c1.cfg (N : Nat) : Cfg := { ty := tys, keep := [16], flt := [], elm := [], live := [(2, [0, 1, 7, 8])], ord := [], con := [((36, [.one]), impl_CandsRight_c1_c1.con N)], loops := [(2, loopCon N slices_IndexFunc_Sint64_int64__impl_CandsRight_c1_c1.sk2 slices_IndexFunc_Sint64_int64__impl_CandsRight_c1_c1.xs2 (fun {R} => slices_IndexFunc_Sint64_int64__impl_CandsRight_c1_c1.l2 (R := R) N))], joins := [] }
theorem slices_IndexFunc_Sint64_int64__impl_CandsRight_c1_c1.cons (N : Nat) : ConsOk Try.prog (slices_IndexFunc_Sint64_int64__impl_CandsRight_c1_c1.cfg N).con := (consOk_cons (hb36) (impl_CandsRight_c1_c1.ok N) consOk_nil)
theorem slices_IndexFunc_Sint64_int64__impl_CandsRight_c1_c1.h2 {R : Type} (N : Nat) (d : slices_IndexFunc_Sint64_int64__impl_CandsRight_c1_c1.sk2.D) (kn : slices_IndexFunc_Sint64_int64__impl_CandsRight_c1_c1.sk2.D → Option R) (kx : XD slices_IndexFunc_Sint64_int64__impl_CandsRight_c1_c1.xs2 → Option R) : roundK (slices_IndexFunc_Sint64_int64__impl_CandsRight_c1_c1.cfg N) N (nthLoop (fnBody Try.f52) 0) slices_IndexFunc_Sint64_int64__impl_CandsRight_c1_c1.sk2 slices_IndexFunc_Sint64_int64__impl_CandsRight_c1_c1.xs2 d kn kx = slices_IndexFunc_Sint64_int64__impl_CandsRight_c1_c1.l2 N d kn kx := by kernel_rfl
theorem slices_IndexFunc_Sint64_int64__impl_CandsRight_c1_c1.i2 (N : Nat) : LoopsOk Try.prog (slices_IndexFunc_Sint64_int64__impl_CandsRight_c1_c1.cfg N) (nthLoop (fnBody Try.f52) 0) := loopsL (l := []) (by kernel_rfl) trivial
theorem slices_IndexFunc_Sint64_int64__impl_CandsRight_c1_c1.o2 (N : Nat) : LoopOk Try.prog (nthLoop (fnBody Try.f52) 0) (loopCon N slices_IndexFunc_Sint64_int64__impl_CandsRight_c1_c1.sk2 slices_IndexFunc_Sint64_int64__impl_CandsRight_c1_c1.xs2 (fun {R} => slices_IndexFunc_Sint64_int64__impl_CandsRight_c1_c1.l2 (R := R) N)) := loop_ok (g := slices_IndexFunc_Sint64_int64__impl_CandsRight_c1_c1.cfg N) tys_ok (slices_IndexFunc_Sint64_int64__impl_CandsRight_c1_c1.cons N) mixed (slices_IndexFunc_Sint64_int64__impl_CandsRight_c1_c1.i2 N) (fun d kn kx => slices_IndexFunc_Sint64_int64__impl_CandsRight_c1_c1.h2 N d kn kx)
theorem slices_IndexFunc_Sint64_int64__impl_CandsRight_c1_c1.ls (N : Nat) : LoopsOk Try.prog (slices_IndexFunc_Sint64_int64__impl_CandsRight_c1_c1.cfg N) (fnBody Try.f52) := loopsL (l := [nthLoop (fnBody Try.f52) 0]) (by kernel_rfl) ⟨loopOne (L0 := loopCon N slices_IndexFunc_Sint64_int64__impl_CandsRight_c1_c1.sk2 slices_IndexFunc_Sint64_int64__impl_CandsRight_c1_c1.xs2 (fun {R} => slices_IndexFunc_Sint64_int64__impl_CandsRight_c1_c1.l2 (R := R) N)) (id := 2) (by kernel_rfl) (by kernel_rfl) (slices_IndexFunc_Sint64_int64__impl_CandsRight_c1_c1.o2 N), trivial⟩
theorem slices_IndexFunc_Sint64_int64__impl_CandsRight_c1_c1.q2 {R R' : Type} {N n : Nat} {d} {k} {g : R → Option R'} : bindF (loopP (slices_IndexFunc_Sint64_int64__impl_CandsRight_c1_c1.l2 N) n d k) g = loopP (slices_IndexFunc_Sint64_int64__impl_CandsRight_c1_c1.l2 N) n d fun e => bindF (k e) g := bindF_loopP (fun d kn kx => by simp only [slices_IndexFunc_Sint64_int64__impl_CandsRight_c1_c1.l2, bindF_ifB, bindF_bindO, bindF_pure, bindF_none, bindF_onSum]) n d k
theorem slices_IndexFunc_Sint64_int64__impl_CandsRight_c1_c1.b (N : Nat) (x0 : den (.sl 2 (.int .i64))) : body (slices_IndexFunc_Sint64_int64__impl_CandsRight_c1_c1.cfg N) N Try.f52 [.one, .fn 36 0] [.v] [(false, .imm)] [⟨(.sl 2 (.int .i64)), .imm, x0⟩] (fun r i => some (r, i)) = bindO (slices_IndexFunc_Sint64_int64__impl_CandsRight_c1_c1 N x0) fun r => some ([⟨(.int .i64), .imm, r⟩], []) := by
  show _ = bindF _ _
  conv => rhs; simp only [slices_IndexFunc_Sint64_int64__impl_CandsRight_c1_c1, bindF_ifB, bindF_bindO, bindF_pure, bindF_none, bindF_onSum, slices_IndexFunc_Sint64_int64__impl_CandsRight_c1_c1.q2]
  kernel_rfl
theorem slices_IndexFunc_Sint64_int64__impl_CandsRight_c1_c1.ok (N : Nat) : ConOk Try.prog 52 [.one, .fn 36 0] (slices_IndexFunc_Sint64_int64__impl_CandsRight_c1_c1.con N) := by
  refine conOk_mk (g := slices_IndexFunc_Sint64_int64__impl_CandsRight_c1_c1.cfg N) (N := N) (res := [(false, .imm)]) tys_ok (slices_IndexFunc_Sint64_int64__impl_CandsRight_c1_c1.cons N) mixed Try.func52 (slices_IndexFunc_Sint64_int64__impl_CandsRight_c1_c1.ls N) rfl rfl ?_
  intro ds R k y h
  cases ds with
  | nil => exact none_some h
  | cons d0 ds =>
  cases ds with
  | cons _ _ => exact none_some h
  | nil =>
  have h0 : (castDm (.sl 2 (.int .i64)) .imm d0 fun x0 => bindO (slices_IndexFunc_Sint64_int64__impl_CandsRight_c1_c1 N x0) fun r => k [⟨(.int .i64), .imm, r⟩] []) = some y := h
  clear h
  obtain ⟨x0, rfl, h1⟩ := castDm_eq h0
  exact con_fin (slices_IndexFunc_Sint64_int64__impl_CandsRight_c1_c1.b N x0) h1
def slices_ContainsFunc_Sint64_int64__impl_CandsRight_c1_c1.con (N : Nat) : Con := { modes := [.v], ptrs := [false], fn := fun ds k => match ds with | [d0] => castDm (.sl 2 (.int .i64)) .imm d0 fun x0 => bindO (slices_ContainsFunc_Sint64_int64__impl_CandsRight_c1_c1 N x0) fun r => k [⟨.bool, .imm, r⟩] [] | _ => none }
def slices_ContainsFunc_Sint64_int64__impl_CandsRight_c1_c1.cfg (N : Nat) : Cfg := { ty := tys, keep := [7], flt := [], elm := [], live := [], ord := [], con := [((52, [.one, .fn 36 0]), slices_IndexFunc_Sint64_int64__impl_CandsRight_c1_c1.con N)], loops := [], joins := [] }
theorem slices_ContainsFunc_Sint64_int64__impl_CandsRight_c1_c1.cons (N : Nat) : ConsOk Try.prog (slices_ContainsFunc_Sint64_int64__impl_CandsRight_c1_c1.cfg N).con := (consOk_cons (hb52) (slices_IndexFunc_Sint64_int64__impl_CandsRight_c1_c1.ok N) consOk_nil)
theorem slices_ContainsFunc_Sint64_int64__impl_CandsRight_c1_c1.ls (N : Nat) : LoopsOk Try.prog (slices_ContainsFunc_Sint64_int64__impl_CandsRight_c1_c1.cfg N) (fnBody Try.f35) := loopsL (l := []) (by kernel_rfl) trivial
theorem slices_ContainsFunc_Sint64_int64__impl_CandsRight_c1_c1.b (N : Nat) (x0 : den (.sl 2 (.int .i64))) : body (slices_ContainsFunc_Sint64_int64__impl_CandsRight_c1_c1.cfg N) N Try.f35 [.one, .fn 36 0] [.v] [(false, .imm)] [⟨(.sl 2 (.int .i64)), .imm, x0⟩] (fun r i => some (r, i)) = bindO (slices_ContainsFunc_Sint64_int64__impl_CandsRight_c1_c1 N x0) fun r => some ([⟨.bool, .imm, r⟩], []) := by
  show _ = bindF _ _
  conv => rhs; simp only [slices_ContainsFunc_Sint64_int64__impl_CandsRight_c1_c1, bindF_ifB, bindF_bindO, bindF_pure, bindF_none, bindF_onSum]
  kernel_rfl
theorem slices_ContainsFunc_Sint64_int64__impl_CandsRight_c1_c1.ok (N : Nat) : ConOk Try.prog 35 [.one, .fn 36 0] (slices_ContainsFunc_Sint64_int64__impl_CandsRight_c1_c1.con N) := by
  refine conOk_mk (g := slices_ContainsFunc_Sint64_int64__impl_CandsRight_c1_c1.cfg N) (N := N) (res := [(false, .imm)]) tys_ok (slices_ContainsFunc_Sint64_int64__impl_CandsRight_c1_c1.cons N) mixed Try.func35 (slices_ContainsFunc_Sint64_int64__impl_CandsRight_c1_c1.ls N) rfl rfl ?_
  intro ds R k y h
  cases ds with
  | nil => exact none_some h
  | cons d0 ds =>
  cases ds with
  | cons _ _ => exact none_some h
  | nil =>
  have h0 : (castDm (.sl 2 (.int .i64)) .imm d0 fun x0 => bindO (slices_ContainsFunc_Sint64_int64__impl_CandsRight_c1_c1 N x0) fun r => k [⟨.bool, .imm, r⟩] []) = some y := h
  clear h
  obtain ⟨x0, rfl, h1⟩ := castDm_eq h0
  exact con_fin (slices_ContainsFunc_Sint64_int64__impl_CandsRight_c1_c1.b N x0) h1
def impl_CandsRight_c1.con (N : Nat) : Con := { modes := [.v], ptrs := [false], fn := fun ds k => match ds with | [d0] => castDm (.sl 2 (.int .i64)) .imm d0 fun x0 => bindO (impl_CandsRight_c1 N x0) fun r => k [⟨.bool, .imm, r⟩] [] | _ => none }
def impl_CandsRight_c1.cfg (N : Nat) : Cfg := { ty := tys, keep := [4, 5, 9], flt := [], elm := [], live := [], ord := [], con := [((34, [.one]), impl_size_Sint64.con N), ((33, [.one, .one, .one]), impl_within.con N), ((35, [.one, .fn 36 0]), slices_ContainsFunc_Sint64_int64__impl_CandsRight_c1_c1.con N)], loops := [], joins := [] }
theorem impl_CandsRight_c1.cons (N : Nat) : ConsOk Try.prog (impl_CandsRight_c1.cfg N).con := (consOk_cons (hb34) (impl_size_Sint64.ok N) (consOk_cons (hb33) (impl_within.ok N) (consOk_cons (hb35) (slices_ContainsFunc_Sint64_int64__impl_CandsRight_c1_c1.ok N) consOk_nil)))
theorem impl_CandsRight_c1.ls (N : Nat) : LoopsOk Try.prog (impl_CandsRight_c1.cfg N) (fnBody Try.f32) := loopsL (l := []) (by kernel_rfl) trivial
theorem impl_CandsRight_c1.b (N : Nat) (x0 : den (.sl 2 (.int .i64))) : body (impl_CandsRight_c1.cfg N) N Try.f32 [.one] [.v] [(false, .imm)] [⟨(.sl 2 (.int .i64)), .imm, x0⟩] (fun r i => some (r, i)) = bindO (impl_CandsRight_c1 N x0) fun r => some ([⟨.bool, .imm, r⟩], []) := by
  show _ = bindF _ _
  conv => rhs; simp only [impl_CandsRight_c1, bindF_ifB, bindF_bindO, bindF_pure, bindF_none, bindF_onSum]
  kernel_rfl
theorem impl_CandsRight_c1.ok (N : Nat) : ConOk Try.prog 32 [.one] (impl_CandsRight_c1.con N) := by
  refine conOk_mk (g := impl_CandsRight_c1.cfg N) (N := N) (res := [(false, .imm)]) tys_ok (impl_CandsRight_c1.cons N) mixed Try.func32 (impl_CandsRight_c1.ls N) rfl rfl ?_
  intro ds R k y h
  cases ds with
  | nil => exact none_some h
  | cons d0 ds =>
  cases ds with
  | cons _ _ => exact none_some h
  | nil =>
  have h0 : (castDm (.sl 2 (.int .i64)) .imm d0 fun x0 => bindO (impl_CandsRight_c1 N x0) fun r => k [⟨.bool, .imm, r⟩] []) = some y := h
  clear h
  obtain ⟨x0, rfl, h1⟩ := castDm_eq h0
  exact con_fin (impl_CandsRight_c1.b N x0) h1
def slices_IndexFunc_S_Sint64__Sint64__impl_CandsRight_c1.sk2 : Skel := ⟨[.pv (.sl 29 (.sl 2 (.int .i64))), .fn 32 [], .dead, .dead, .dead, .dead, .dead, .pv (.int .i64), .pv (.int .i64), .dead, .dead, .dead, .dead, .dead, .dead, .dead, .dead, .dead, .dead], []⟩
def slices_IndexFunc_S_Sint64__Sint64__impl_CandsRight_c1.xs2 : List XS := [⟨.exit 0, [], ⟨[.dead, .dead, .dead, .dead, .dead, .dead, .dead, .dead, .dead, .dead, .dead, .dead, .dead, .dead, .dead, .dead, .dead, .dead, .dead], []⟩⟩, ⟨.ret, [4], ⟨[.dead, .dead, .dead, .dead, .pv (.int .i64), .dead, .dead, .dead, .dead, .dead, .dead, .dead, .dead, .dead, .dead, .dead, .dead, .dead, .dead], []⟩⟩]
def slices_IndexFunc_S_Sint64__Sint64__impl_CandsRight_c1.con (N : Nat) : Con := { modes := [.v], ptrs := [false], fn := fun ds k => match ds with | [d0] => castDm (.sl 29 (.sl 2 (.int .i64))) .imm d0 fun x0 => bindO (slices_IndexFunc_S_Sint64__Sint64__impl_CandsRight_c1 N x0) fun r => k [⟨(.int .i64), .imm, r⟩] [] | _ => none }
def slices_IndexFunc_S_Sint64__Sint64__impl_CandsRight_c1.cfg (N : Nat) : Cfg := { ty := tys, keep := [16], flt := [], elm := [], live := [(2, [0, 1, 7, 8])], ord := [], con := [((32, [.one]), impl_CandsRight_c1.con N)], loops := [(2, loopCon N slices_IndexFunc_S_Sint64__Sint64__impl_CandsRight_c1.sk2 slices_IndexFunc_S_Sint64__Sint64__impl_CandsRight_c1.xs2 (fun {R} => slices_IndexFunc_S_Sint64__Sint64__impl_CandsRight_c1.l2 (R := R) N))], joins := [] }
theorem slices_IndexFunc_S_Sint64__Sint64__impl_CandsRight_c1.cons (N : Nat) : ConsOk Try.prog (slices_IndexFunc_S_Sint64__Sint64__impl_CandsRight_c1.cfg N).con := (consOk_cons (hb32) (impl_CandsRight_c1.ok N) consOk_nil)
theorem slices_IndexFunc_S_Sint64__Sint64__impl_CandsRight_c1.h2 {R : Type} (N : Nat) (d : slices_IndexFunc_S_Sint64__Sint64__impl_CandsRight_c1.sk2.D) (kn : slices_IndexFunc_S_Sint64__Sint64__impl_CandsRight_c1.sk2.D → Option R) (kx : XD slices_IndexFunc_S_Sint64__Sint64__impl_CandsRight_c1.xs2 → Option R) : roundK (slices_IndexFunc_S_Sint64__Sint64__impl_CandsRight_c1.cfg N) N (nthLoop (fnBody Try.f51) 0) slices_IndexFunc_S_Sint64__Sint64__impl_CandsRight_c1.sk2 slices_IndexFunc_S_Sint64__Sint64__impl_CandsRight_c1.xs2 d kn kx = slices_IndexFunc_S_Sint64__Sint64__impl_CandsRight_c1.l2 N d kn kx := by kernel_rfl
theorem slices_IndexFunc_S_Sint64__Sint64__impl_CandsRight_c1.i2 (N : Nat) : LoopsOk Try.prog (slices_IndexFunc_S_Sint64__Sint64__impl_CandsRight_c1.cfg N) (nthLoop (fnBody Try.f51) 0) := loopsL (l := []) (by kernel_rfl) trivial
theorem slices_IndexFunc_S_Sint64__Sint64__impl_CandsRight_c1.o2 (N : Nat) : LoopOk Try.prog (nthLoop (fnBody Try.f51) 0) (loopCon N slices_IndexFunc_S_Sint64__Sint64__impl_CandsRight_c1.sk2 slices_IndexFunc_S_Sint64__Sint64__impl_CandsRight_c1.xs2 (fun {R} => slices_IndexFunc_S_Sint64__Sint64__impl_CandsRight_c1.l2 (R := R) N)) := loop_ok (g := slices_IndexFunc_S_Sint64__Sint64__impl_CandsRight_c1.cfg N) tys_ok (slices_IndexFunc_S_Sint64__Sint64__impl_CandsRight_c1.cons N) mixed (slices_IndexFunc_S_Sint64__Sint64__impl_CandsRight_c1.i2 N) (fun d kn kx => slices_IndexFunc_S_Sint64__Sint64__impl_CandsRight_c1.h2 N d kn kx)
theorem slices_IndexFunc_S_Sint64__Sint64__impl_CandsRight_c1.ls (N : Nat) : LoopsOk Try.prog (slices_IndexFunc_S_Sint64__Sint64__impl_CandsRight_c1.cfg N) (fnBody Try.f51) := loopsL (l := [nthLoop (fnBody Try.f51) 0]) (by kernel_rfl) ⟨loopOne (L0 := loopCon N slices_IndexFunc_S_Sint64__Sint64__impl_CandsRight_c1.sk2 slices_IndexFunc_S_Sint64__Sint64__impl_CandsRight_c1.xs2 (fun {R} => slices_IndexFunc_S_Sint64__Sint64__impl_CandsRight_c1.l2 (R := R) N)) (id := 2) (by kernel_rfl) (by kernel_rfl) (slices_IndexFunc_S_Sint64__Sint64__impl_CandsRight_c1.o2 N), trivial⟩
theorem slices_IndexFunc_S_Sint64__Sint64__impl_CandsRight_c1.q2 {R R' : Type} {N n : Nat} {d} {k} {g : R → Option R'} : bindF (loopP (slices_IndexFunc_S_Sint64__Sint64__impl_CandsRight_c1.l2 N) n d k) g = loopP (slices_IndexFunc_S_Sint64__Sint64__impl_CandsRight_c1.l2 N) n d fun e => bindF (k e) g := bindF_loopP (fun d kn kx => by simp only [slices_IndexFunc_S_Sint64__Sint64__impl_CandsRight_c1.l2, bindF_ifB, bindF_bindO, bindF_pure, bindF_none, bindF_onSum]) n d k
theorem slices_IndexFunc_S_Sint64__Sint64__impl_CandsRight_c1.b (N : Nat) (x0 : den (.sl 29 (.sl 2 (.int .i64)))) : body (slices_IndexFunc_S_Sint64__Sint64__impl_CandsRight_c1.cfg N) N Try.f51 [.one, .fn 32 0] [.v] [(false, .imm)] [⟨(.sl 29 (.sl 2 (.int .i64))), .imm, x0⟩] (fun r i => some (r, i)) = bindO (slices_IndexFunc_S_Sint64__Sint64__impl_CandsRight_c1 N x0) fun r => some ([⟨(.int .i64), .imm, r⟩], []) := by
  show _ = bindF _ _
  conv => rhs; simp only [slices_IndexFunc_S_Sint64__Sint64__impl_CandsRight_c1, bindF_ifB, bindF_bindO, bindF_pure, bindF_none, bindF_onSum, slices_IndexFunc_S_Sint64__Sint64__impl_CandsRight_c1.q2]
  kernel_rfl
theorem slices_IndexFunc_S_Sint64__Sint64__impl_CandsRight_c1.ok (N : Nat) : ConOk Try.prog 51 [.one, .fn 32 0] (slices_IndexFunc_S_Sint64__Sint64__impl_CandsRight_c1.con N) := by
  refine conOk_mk (g := slices_IndexFunc_S_Sint64__Sint64__impl_CandsRight_c1.cfg N) (N := N) (res := [(false, .imm)]) tys_ok (slices_IndexFunc_S_Sint64__Sint64__impl_CandsRight_c1.cons N) mixed Try.func51 (slices_IndexFunc_S_Sint64__Sint64__impl_CandsRight_c1.ls N) rfl rfl ?_
  intro ds R k y h
  cases ds with
  | nil => exact none_some h
  | cons d0 ds =>
  cases ds with
  | cons _ _ => exact none_some h
  | nil =>
  have h0 : (castDm (.sl 29 (.sl 2 (.int .i64))) .imm d0 fun x0 => bindO (slices_IndexFunc_S_Sint64__Sint64__impl_CandsRight_c1 N x0) fun r => k [⟨(.int .i64), .imm, r⟩] []) = some y := h
  clear h
  obtain ⟨x0, rfl, h1⟩ := castDm_eq h0
  exact con_fin (slices_IndexFunc_S_Sint64__Sint64__impl_CandsRight_c1.b N x0) h1
def slices_ContainsFunc_S_Sint64__Sint64__impl_CandsRight_c1.con (N : Nat) : Con := { modes := [.v], ptrs := [false], fn := fun ds k => match ds with | [d0] => castDm (.sl 29 (.sl 2 (.int .i64))) .imm d0 fun x0 => bindO (slices_ContainsFunc_S_Sint64__Sint64__impl_CandsRight_c1 N x0) fun r => k [⟨.bool, .imm, r⟩] [] | _ => none }
def slices_ContainsFunc_S_Sint64__Sint64__impl_CandsRight_c1.cfg (N : Nat) : Cfg := { ty := tys, keep := [7], flt := [], elm := [], live := [], ord := [], con := [((51, [.one, .fn 32 0]), slices_IndexFunc_S_Sint64__Sint64__impl_CandsRight_c1.con N)], loops := [], joins := [] }
theorem slices_ContainsFunc_S_Sint64__Sint64__impl_CandsRight_c1.cons (N : Nat) : ConsOk Try.prog (slices_ContainsFunc_S_Sint64__Sint64__impl_CandsRight_c1.cfg N).con := (consOk_cons (hb51) (slices_IndexFunc_S_Sint64__Sint64__impl_CandsRight_c1.ok N) consOk_nil)
theorem slices_ContainsFunc_S_Sint64__Sint64__impl_CandsRight_c1.ls (N : Nat) : LoopsOk Try.prog (slices_ContainsFunc_S_Sint64__Sint64__impl_CandsRight_c1.cfg N) (fnBody Try.f31) := loopsL (l := []) (by kernel_rfl) trivial
theorem slices_ContainsFunc_S_Sint64__Sint64__impl_CandsRight_c1.b (N : Nat) (x0 : den (.sl 29 (.sl 2 (.int .i64)))) : body (slices_ContainsFunc_S_Sint64__Sint64__impl_CandsRight_c1.cfg N) N Try.f31 [.one, .fn 32 0] [.v] [(false, .imm)] [⟨(.sl 29 (.sl 2 (.int .i64))), .imm, x0⟩] (fun r i => some (r, i)) = bindO (slices_ContainsFunc_S_Sint64__Sint64__impl_CandsRight_c1 N x0) fun r => some ([⟨.bool, .imm, r⟩], []) := by
  show _ = bindF _ _
  conv => rhs; simp only [slices_ContainsFunc_S_Sint64__Sint64__impl_CandsRight_c1, bindF_ifB, bindF_bindO, bindF_pure, bindF_none, bindF_onSum]
  kernel_rfl
theorem slices_ContainsFunc_S_Sint64__Sint64__impl_CandsRight_c1.ok (N : Nat) : ConOk Try.prog 31 [.one, .fn 32 0] (slices_ContainsFunc_S_Sint64__Sint64__impl_CandsRight_c1.con N) := by
  refine conOk_mk (g := slices_ContainsFunc_S_Sint64__Sint64__impl_CandsRight_c1.cfg N) (N := N) (res := [(false, .imm)]) tys_ok (slices_ContainsFunc_S_Sint64__Sint64__impl_CandsRight_c1.cons N) mixed Try.func31 (slices_ContainsFunc_S_Sint64__Sint64__impl_CandsRight_c1.ls N) rfl rfl ?_
  intro ds R k y h
  cases ds with
  | nil => exact none_some h
  | cons d0 ds =>
  cases ds with
  | cons _ _ => exact none_some h
  | nil =>
  have h0 : (castDm (.sl 29 (.sl 2 (.int .i64))) .imm d0 fun x0 => bindO (slices_ContainsFunc_S_Sint64__Sint64__impl_CandsRight_c1 N x0) fun r => k [⟨.bool, .imm, r⟩] []) = some y := h
  clear h
  obtain ⟨x0, rfl, h1⟩ := castDm_eq h0
  exact con_fin (slices_ContainsFunc_S_Sint64__Sint64__impl_CandsRight_c1.b N x0) h1
def impl_CandsRight.con (N : Nat) : Con := { modes := [.v], ptrs := [false], fn := fun ds k => match ds with | [d0] => castDm (.sl 29 (.sl 2 (.int .i64))) .imm d0 fun x0 => bindO (impl_CandsRight N x0) fun r => k [⟨.bool, .imm, r⟩] [] | _ => none }
def impl_CandsRight.cfg (N : Nat) : Cfg := { ty := tys, keep := [8], flt := [], elm := [], live := [], ord := [], con := [((31, [.one, .fn 32 0]), slices_ContainsFunc_S_Sint64__Sint64__impl_CandsRight_c1.con N)], loops := [], joins := [] }
theorem impl_CandsRight.cons (N : Nat) : ConsOk Try.prog (impl_CandsRight.cfg N).con := (consOk_cons (hb31) (slices_ContainsFunc_S_Sint64__Sint64__impl_CandsRight_c1.ok N) consOk_nil)
theorem impl_CandsRight.ls (N : Nat) : LoopsOk Try.prog (impl_CandsRight.cfg N) (fnBody Try.f12) := loopsL (l := []) (by kernel_rfl) trivial
theorem impl_CandsRight.b (N : Nat) (x0 : den (.sl 29 (.sl 2 (.int .i64)))) : body (impl_CandsRight.cfg N) N Try.f12 [.one] [.v] [(false, .imm)] [⟨(.sl 29 (.sl 2 (.int .i64))), .imm, x0⟩] (fun r i => some (r, i)) = bindO (impl_CandsRight N x0) fun r => some ([⟨.bool, .imm, r⟩], []) := by
  show _ = bindF _ _
  conv => rhs; simp only [impl_CandsRight, bindF_ifB, bindF_bindO, bindF_pure, bindF_none, bindF_onSum]
  kernel_rfl
theorem impl_CandsRight.ok (N : Nat) : ConOk Try.prog 12 [.one] (impl_CandsRight.con N) := by
  refine conOk_mk (g := impl_CandsRight.cfg N) (N := N) (res := [(false, .imm)]) tys_ok (impl_CandsRight.cons N) mixed Try.func12 (impl_CandsRight.ls N) rfl rfl ?_
  intro ds R k y h
  cases ds with
  | nil => exact none_some h
  | cons d0 ds =>
  cases ds with
  | cons _ _ => exact none_some h
  | nil =>
  have h0 : (castDm (.sl 29 (.sl 2 (.int .i64))) .imm d0 fun x0 => bindO (impl_CandsRight N x0) fun r => k [⟨.bool, .imm, r⟩] []) = some y := h
  clear h
  obtain ⟨x0, rfl, h1⟩ := castDm_eq h0
  exact con_fin (impl_CandsRight.b N x0) h1
def laws_eqInt64S.sk4 : Skel := ⟨[.pv (.sl 2 (.int .i64)), .pv (.sl 2 (.int .i64)), .dead, .dead, .dead, .pv (.int .i64), .dead, .dead, .dead, .dead, .dead, .dead, .dead, .dead, .dead, .dead, .dead, .dead, .dead, .dead, .dead, .dead, .dead, .dead, .dead, .dead], []⟩
def laws_eqInt64S.xs4 : List XS := [⟨.exit 0, [], ⟨[.dead, .dead, .dead, .dead, .dead, .dead, .dead, .dead, .dead, .dead, .dead, .dead, .dead, .dead, .dead, .dead, .dead, .dead, .dead, .dead, .dead, .dead, .dead, .dead, .dead, .dead], []⟩⟩, ⟨.ret, [4], ⟨[.dead, .dead, .dead, .dead, .pv .bool, .dead, .dead, .dead, .dead, .dead, .dead, .dead, .dead, .dead, .dead, .dead, .dead, .dead, .dead, .dead, .dead, .dead, .dead, .dead, .dead, .dead], []⟩⟩]
def laws_eqInt64S.con (N : Nat) : Con := { modes := [.v, .v], ptrs := [false], fn := fun ds k => match ds with | [d0, d1] => castDm (.sl 2 (.int .i64)) .imm d0 fun x0 => castDm (.sl 2 (.int .i64)) .imm d1 fun x1 => bindO (laws_eqInt64S N x0 x1) fun r => k [⟨.bool, .imm, r⟩] [] | _ => none }
def laws_eqInt64S.cfg (N : Nat) : Cfg := { ty := tys, keep := [], flt := [], elm := [], live := [(4, [0, 1, 5])], ord := [(6, [0, 1, 2, 3, 4, 5, 6, 7, 8])], con := [], loops := [(4, loopCon N laws_eqInt64S.sk4 laws_eqInt64S.xs4 (fun {R} => laws_eqInt64S.l4 (R := R) N))], joins := [] }
theorem laws_eqInt64S.cons (N : Nat) : ConsOk Try.prog (laws_eqInt64S.cfg N).con := consOk_nil
theorem laws_eqInt64S.h4 {R : Type} (N : Nat) (d : laws_eqInt64S.sk4.D) (kn : laws_eqInt64S.sk4.D → Option R) (kx : XD laws_eqInt64S.xs4 → Option R) : roundK (laws_eqInt64S.cfg N) N (nthLoop (fnBody Try.f18) 0) laws_eqInt64S.sk4 laws_eqInt64S.xs4 d kn kx = laws_eqInt64S.l4 N d kn kx := by kernel_rfl
theorem laws_eqInt64S.i4 (N : Nat) : LoopsOk Try.prog (laws_eqInt64S.cfg N) (nthLoop (fnBody Try.f18) 0) := loopsL (l := []) (by kernel_rfl) trivial
theorem laws_eqInt64S.o4 (N : Nat) : LoopOk Try.prog (nthLoop (fnBody Try.f18) 0) (loopCon N laws_eqInt64S.sk4 laws_eqInt64S.xs4 (fun {R} => laws_eqInt64S.l4 (R := R) N)) := loop_ok (g := laws_eqInt64S.cfg N) tys_ok (laws_eqInt64S.cons N) mixed (laws_eqInt64S.i4 N) (fun d kn kx => laws_eqInt64S.h4 N d kn kx)
theorem laws_eqInt64S.ls (N : Nat) : LoopsOk Try.prog (laws_eqInt64S.cfg N) (fnBody Try.f18) := loopsL (l := [nthLoop (fnBody Try.f18) 0]) (by kernel_rfl) ⟨loopOne (L0 := loopCon N laws_eqInt64S.sk4 laws_eqInt64S.xs4 (fun {R} => laws_eqInt64S.l4 (R := R) N)) (id := 4) (by kernel_rfl) (by kernel_rfl) (laws_eqInt64S.o4 N), trivial⟩
theorem laws_eqInt64S.q4 {R R' : Type} {N n : Nat} {d} {k} {g : R → Option R'} : bindF (loopP (laws_eqInt64S.l4 N) n d k) g = loopP (laws_eqInt64S.l4 N) n d fun e => bindF (k e) g := bindF_loopP (fun d kn kx => by simp only [laws_eqInt64S.l4, bindF_ifB, bindF_bindO, bindF_pure, bindF_none, bindF_onSum]) n d k
theorem laws_eqInt64S.b (N : Nat) (x0 : den (.sl 2 (.int .i64))) (x1 : den (.sl 2 (.int .i64))) : body (laws_eqInt64S.cfg N) N Try.f18 [.one, .one] [.v, .v] [(false, .imm)] [⟨(.sl 2 (.int .i64)), .imm, x0⟩, ⟨(.sl 2 (.int .i64)), .imm, x1⟩] (fun r i => some (r, i)) = bindO (laws_eqInt64S N x0 x1) fun r => some ([⟨.bool, .imm, r⟩], []) := by
  show _ = bindF _ _
  conv => rhs; simp only [laws_eqInt64S, bindF_ifB, bindF_bindO, bindF_pure, bindF_none, bindF_onSum, laws_eqInt64S.q4]
  kernel_rfl
theorem laws_eqInt64S.ok (N : Nat) : ConOk Try.prog 18 [.one, .one] (laws_eqInt64S.con N) := by
  refine conOk_mk (g := laws_eqInt64S.cfg N) (N := N) (res := [(false, .imm)]) tys_ok (laws_eqInt64S.cons N) mixed Try.func18 (laws_eqInt64S.ls N) rfl rfl ?_
  intro ds R k y h
  cases ds with
  | nil => exact none_some h
  | cons d0 ds =>
  cases ds with
  | nil => exact none_some h
  | cons d1 ds =>
  cases ds with
  | cons _ _ => exact none_some h
  | nil =>
  have h0 : (castDm (.sl 2 (.int .i64)) .imm d0 fun x0 => castDm (.sl 2 (.int .i64)) .imm d1 fun x1 => bindO (laws_eqInt64S N x0 x1) fun r => k [⟨.bool, .imm, r⟩] []) = some y := h
  clear h
  obtain ⟨x0, rfl, h1⟩ := castDm_eq h0
  obtain ⟨x1, rfl, h2⟩ := castDm_eq h1
  exact con_fin (laws_eqInt64S.b N x0 x1) h2
def laws_eqInt64SS.sk4 : Skel := ⟨[.pv (.sl 29 (.sl 2 (.int .i64))), .pv (.sl 29 (.sl 2 (.int .i64))), .dead, .dead, .dead, .pv (.int .i64), .dead, .dead, .dead, .dead, .dead, .dead, .dead, .dead, .dead, .dead, .dead, .dead, .dead, .dead, .dead, .dead, .dead, .dead, .dead, .dead, .dead], []⟩
def laws_eqInt64SS.xs4 : List XS := [⟨.exit 0, [], ⟨[.dead, .dead, .dead, .dead, .dead, .dead, .dead, .dead, .dead, .dead, .dead, .dead, .dead, .dead, .dead, .dead, .dead, .dead, .dead, .dead, .dead, .dead, .dead, .dead, .dead, .dead, .dead], []⟩⟩, ⟨.ret, [4], ⟨[.dead, .dead, .dead, .dead, .pv .bool, .dead, .dead, .dead, .dead, .dead, .dead, .dead, .dead, .dead, .dead, .dead, .dead, .dead, .dead, .dead, .dead, .dead, .dead, .dead, .dead, .dead, .dead], []⟩⟩]
def laws_eqInt64SS.con (N : Nat) : Con := { modes := [.v, .v], ptrs := [false], fn := fun ds k => match ds with | [d0, d1] => castDm (.sl 29 (.sl 2 (.int .i64))) .imm d0 fun x0 => castDm (.sl 29 (.sl 2 (.int .i64))) .imm d1 fun x1 => bindO (laws_eqInt64SS N x0 x1) fun r => k [⟨.bool, .imm, r⟩] [] | _ => none }
def laws_eqInt64SS.cfg (N : Nat) : Cfg := { ty := tys, keep := [25], flt := [], elm := [], live := [(4, [0, 1, 5])], ord := [(6, [0, 1, 2, 3, 4, 5, 6, 7, 8, 9])], con := [((18, [.one, .one]), laws_eqInt64S.con N)], loops := [(4, loopCon N laws_eqInt64SS.sk4 laws_eqInt64SS.xs4 (fun {R} => laws_eqInt64SS.l4 (R := R) N))], joins := [] }
theorem laws_eqInt64SS.cons (N : Nat) : ConsOk Try.prog (laws_eqInt64SS.cfg N).con := (consOk_cons (hb18) (laws_eqInt64S.ok N) consOk_nil)
theorem laws_eqInt64SS.h4 {R : Type} (N : Nat) (d : laws_eqInt64SS.sk4.D) (kn : laws_eqInt64SS.sk4.D → Option R) (kx : XD laws_eqInt64SS.xs4 → Option R) : roundK (laws_eqInt64SS.cfg N) N (nthLoop (fnBody Try.f13) 0) laws_eqInt64SS.sk4 laws_eqInt64SS.xs4 d kn kx = laws_eqInt64SS.l4 N d kn kx := by kernel_rfl
theorem laws_eqInt64SS.i4 (N : Nat) : LoopsOk Try.prog (laws_eqInt64SS.cfg N) (nthLoop (fnBody Try.f13) 0) := loopsL (l := []) (by kernel_rfl) trivial
theorem laws_eqInt64SS.o4 (N : Nat) : LoopOk Try.prog (nthLoop (fnBody Try.f13) 0) (loopCon N laws_eqInt64SS.sk4 laws_eqInt64SS.xs4 (fun {R} => laws_eqInt64SS.l4 (R := R) N)) := loop_ok (g := laws_eqInt64SS.cfg N) tys_ok (laws_eqInt64SS.cons N) mixed (laws_eqInt64SS.i4 N) (fun d kn kx => laws_eqInt64SS.h4 N d kn kx)
theorem laws_eqInt64SS.ls (N : Nat) : LoopsOk Try.prog (laws_eqInt64SS.cfg N) (fnBody Try.f13) := loopsL (l := [nthLoop (fnBody Try.f13) 0]) (by kernel_rfl) ⟨loopOne (L0 := loopCon N laws_eqInt64SS.sk4 laws_eqInt64SS.xs4 (fun {R} => laws_eqInt64SS.l4 (R := R) N)) (id := 4) (by kernel_rfl) (by kernel_rfl) (laws_eqInt64SS.o4 N), trivial⟩
theorem laws_eqInt64SS.q4 {R R' : Type} {N n : Nat} {d} {k} {g : R → Option R'} : bindF (loopP (laws_eqInt64SS.l4 N) n d k) g = loopP (laws_eqInt64SS.l4 N) n d fun e => bindF (k e) g := bindF_loopP (fun d kn kx => by simp only [laws_eqInt64SS.l4, bindF_ifB, bindF_bindO, bindF_pure, bindF_none, bindF_onSum]) n d k
theorem laws_eqInt64SS.b (N : Nat) (x0 : den (.sl 29 (.sl 2 (.int .i64)))) (x1 : den (.sl 29 (.sl 2 (.int .i64)))) : body (laws_eqInt64SS.cfg N) N Try.f13 [.one, .one] [.v, .v] [(false, .imm)] [⟨(.sl 29 (.sl 2 (.int .i64))), .imm, x0⟩, ⟨(.sl 29 (.sl 2 (.int .i64))), .imm, x1⟩] (fun r i => some (r, i)) = bindO (laws_eqInt64SS N x0 x1) fun r => some ([⟨.bool, .imm, r⟩], []) := by
  show _ = bindF _ _
  conv => rhs; simp only [laws_eqInt64SS, bindF_ifB, bindF_bindO, bindF_pure, bindF_none, bindF_onSum, laws_eqInt64SS.q4]
  kernel_rfl
theorem laws_eqInt64SS.ok (N : Nat) : ConOk Try.prog 13 [.one, .one] (laws_eqInt64SS.con N) := by
  refine conOk_mk (g := laws_eqInt64SS.cfg N) (N := N) (res := [(false, .imm)]) tys_ok (laws_eqInt64SS.cons N) mixed Try.func13 (laws_eqInt64SS.ls N) rfl rfl ?_
  intro ds R k y h
  cases ds with
  | nil => exact none_some h
  | cons d0 ds =>
  cases ds with
  | nil => exact none_some h
  | cons d1 ds =>
  cases ds with
  | cons _ _ => exact none_some h
  | nil =>
  have h0 : (castDm (.sl 29 (.sl 2 (.int .i64))) .imm d0 fun x0 => castDm (.sl 29 (.sl 2 (.int .i64))) .imm d1 fun x1 => bindO (laws_eqInt64SS N x0 x1) fun r => k [⟨.bool, .imm, r⟩] []) = some y := h
  clear h
  obtain ⟨x0, rfl, h1⟩ := castDm_eq h0
  obtain ⟨x1, rfl, h2⟩ := castDm_eq h1
  exact con_fin (laws_eqInt64SS.b N x0 x1) h2
def laws_FnExactCandsRight.con (N : Nat) : Con := { modes := [.v], ptrs := [false], fn := fun ds k => match ds with | [d0] => castDm (.sl 29 (.sl 2 (.int .i64))) .imm d0 fun x0 => bindO (laws_FnExactCandsRight N x0) fun r => k [⟨.bool, .imm, r⟩] [] | _ => none }
def laws_FnExactCandsRight.cfg (N : Nat) : Cfg := { ty := tys, keep := [9, 13, 14, 16, 18, 24, 25], flt := [], elm := [], live := [], ord := [], con := [((9, [.one, .one]), laws_szInt64SS.con N), ((11, [.one]), laws_toInt64SS.con N), ((10, [.one]), spec_CandsRight.con N), ((12, [.one]), impl_CandsRight.con N), ((13, [.one, .one]), laws_eqInt64SS.con N)], loops := [], joins := [] }
theorem laws_FnExactCandsRight.cons (N : Nat) : ConsOk Try.prog (laws_FnExactCandsRight.cfg N).con := (consOk_cons (hb9) (laws_szInt64SS.ok N) (consOk_cons (hb11) (laws_toInt64SS.ok N) (consOk_cons (hb10) (spec_CandsRight.ok N) (consOk_cons (hb12) (impl_CandsRight.ok N) (consOk_cons (hb13) (laws_eqInt64SS.ok N) consOk_nil)))))
theorem laws_FnExactCandsRight.ls (N : Nat) : LoopsOk Try.prog (laws_FnExactCandsRight.cfg N) (fnBody Try.f4) := loopsL (l := []) (by kernel_rfl) trivial
theorem laws_FnExactCandsRight.b (N : Nat) (x0 : den (.sl 29 (.sl 2 (.int .i64)))) : body (laws_FnExactCandsRight.cfg N) N Try.f4 [.one] [.v] [(false, .imm)] [⟨(.sl 29 (.sl 2 (.int .i64))), .imm, x0⟩] (fun r i => some (r, i)) = bindO (laws_FnExactCandsRight N x0) fun r => some ([⟨.bool, .imm, r⟩], []) := by
  show _ = bindF _ _
  conv => rhs; simp only [laws_FnExactCandsRight, bindF_ifB, bindF_bindO, bindF_pure, bindF_none, bindF_onSum]
  kernel_rfl
theorem laws_FnExactCandsRight.ok (N : Nat) : ConOk Try.prog 4 [.one] (laws_FnExactCandsRight.con N) := by
  refine conOk_mk (g := laws_FnExactCandsRight.cfg N) (N := N) (res := [(false, .imm)]) tys_ok (laws_FnExactCandsRight.cons N) mixed Try.func4 (laws_FnExactCandsRight.ls N) rfl rfl ?_
  intro ds R k y h
  cases ds with
  | nil => exact none_some h
  | cons d0 ds =>
  cases ds with
  | cons _ _ => exact none_some h
  | nil =>
  have h0 : (castDm (.sl 29 (.sl 2 (.int .i64))) .imm d0 fun x0 => bindO (laws_FnExactCandsRight N x0) fun r => k [⟨.bool, .imm, r⟩] []) = some y := h
  clear h
  obtain ⟨x0, rfl, h1⟩ := castDm_eq h0
  exact con_fin (laws_FnExactCandsRight.b N x0) h1
end Go.AE.F
