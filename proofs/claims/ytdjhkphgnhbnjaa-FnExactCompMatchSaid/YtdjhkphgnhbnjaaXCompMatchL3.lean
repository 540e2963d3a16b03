/- The printed functions are what the program comes to: contracts. -/
import Derived.Test.YtdjhkphgnhbnjaaXCompMatchL2
namespace Go.AE.F
open Go.AE Go.Proofs
set_option maxRecDepth 100000
def laws_heldInt64S.sk2 : Skel := ⟨[.pv (.sl 2 (.int .i64)), .pv (.int .i64), .dead, .dead, .dead, .pv (.int .i64), .dead, .dead, .dead, .dead, .dead, .dead, .dead, .dead, .dead, .dead, .dead, .dead, .dead, .dead, .dead], []⟩
def laws_heldInt64S.xs2 : List XS := [⟨.exit 0, [1], ⟨[.dead, .pv (.int .i64), .dead, .dead, .dead, .dead, .dead, .dead, .dead, .dead, .dead, .dead, .dead, .dead, .dead, .dead, .dead, .dead, .dead, .dead, .dead], []⟩⟩, ⟨.ret, [4], ⟨[.dead, .dead, .dead, .dead, .pv (.int .i64), .dead, .dead, .dead, .dead, .dead, .dead, .dead, .dead, .dead, .dead, .dead, .dead, .dead, .dead, .dead, .dead], []⟩⟩]
noncomputable def laws_heldInt64S.con (N : Nat) : Con := { modes := [.v, .v], ptrs := [false], fn := fun ds k => match ds with | [d0, d1] => castDm (.sl 2 (.int .i64)) .imm d0 fun x0 => castDm (.int .i64) .imm d1 fun x1 => bindO (laws_heldInt64S N x0 x1) fun r => k [⟨(.int .i64), .imm, r⟩] [] | _ => none }
noncomputable def laws_heldInt64S.cfg (N : Nat) : Cfg := { ty := tys, keep := [], flt := [], elm := [(24, (.own (.own .imm))), (29, (.own .imm)), (30, (.pr (.own .imm) .imm)), (31, (.pr (.own .imm) .imm)), (34, (.pr (.own .imm) .imm)), (45, (.own .imm)), (59, (.own .imm))], live := [(2, [0, 1, 5])], ord := [], con := [], loops := [(2, loopCon N laws_heldInt64S.sk2 laws_heldInt64S.xs2 (fun {R} => laws_heldInt64S.l2 (R := R) N))], joins := [] }
theorem laws_heldInt64S.cons (N : Nat) : ConsOk Try.prog (laws_heldInt64S.cfg N).con := consOk_nil
theorem laws_heldInt64S.h2 {R : Type} (N : Nat) (d : laws_heldInt64S.sk2.D) (kn : laws_heldInt64S.sk2.D → Option R) (kx : XD laws_heldInt64S.xs2 → Option R) : roundK (laws_heldInt64S.cfg N) N (nthLoop (fnBody Try.f22) 0) laws_heldInt64S.sk2 laws_heldInt64S.xs2 d kn kx = laws_heldInt64S.l2 N d kn kx := by kernel_rfl
theorem laws_heldInt64S.i2 (N : Nat) : LoopsOk Try.prog (laws_heldInt64S.cfg N) (nthLoop (fnBody Try.f22) 0) := loopsL (l := []) (by kernel_rfl) trivial
theorem laws_heldInt64S.o2 (N : Nat) : LoopOk Try.prog (nthLoop (fnBody Try.f22) 0) (loopCon N laws_heldInt64S.sk2 laws_heldInt64S.xs2 (fun {R} => laws_heldInt64S.l2 (R := R) N)) := loop_ok (g := laws_heldInt64S.cfg N) tys_ok (laws_heldInt64S.cons N) mixed (laws_heldInt64S.i2 N) (fun d kn kx => laws_heldInt64S.h2 N d kn kx)
theorem laws_heldInt64S.ls (N : Nat) : LoopsOk Try.prog (laws_heldInt64S.cfg N) (fnBody Try.f22) := loopsL (l := [nthLoop (fnBody Try.f22) 0]) (by kernel_rfl) ⟨loopOne (L0 := loopCon N laws_heldInt64S.sk2 laws_heldInt64S.xs2 (fun {R} => laws_heldInt64S.l2 (R := R) N)) (id := 2) (by kernel_rfl) (by kernel_rfl) (laws_heldInt64S.o2 N), trivial⟩
theorem laws_heldInt64S.q2 {R R' : Type} {N n : Nat} {d} {k} {g : R → Option R'} : bindF (loopP (laws_heldInt64S.l2 N) n d k) g = loopP (laws_heldInt64S.l2 N) n d fun e => bindF (k e) g := bindF_loopP (fun d kn kx => by simp only [laws_heldInt64S.l2, bindF_ifB, bindF_bindO, bindF_pure, bindF_none, bindF_onSum]) n d k
theorem laws_heldInt64S.b (N : Nat) (x0 : den (.sl 2 (.int .i64))) (x1 : den (.int .i64)) : body (laws_heldInt64S.cfg N) N Try.f22 [.one, .one] [.v, .v] [(false, .imm)] [⟨(.sl 2 (.int .i64)), .imm, x0⟩, ⟨(.int .i64), .imm, x1⟩] (fun r i => some (r, i)) = bindO (laws_heldInt64S N x0 x1) fun r => some ([⟨(.int .i64), .imm, r⟩], []) := by
  show _ = bindF _ _
  conv => rhs; simp only [laws_heldInt64S, bindF_ifB, bindF_bindO, bindF_pure, bindF_none, bindF_onSum, laws_heldInt64S.q2]
  kernel_rfl
theorem laws_heldInt64S.ok (N : Nat) : ConOk Try.prog 22 [.one, .one] (laws_heldInt64S.con N) := by
  refine conOk_mk (g := laws_heldInt64S.cfg N) (N := N) (res := [(false, .imm)]) tys_ok (laws_heldInt64S.cons N) mixed Try.func22 (laws_heldInt64S.ls N) rfl rfl ?_
  intro ds R k y h
  cases ds with
  | nil => exact none_some h
  | cons d0 ds =>
  cases ds with
  | nil => exact none_some h
  | cons d1 ds =>
  cases ds with
  | cons _ _ => exact none_some h
  | nil =>
  have h0 : (castDm (.sl 2 (.int .i64)) .imm d0 fun x0 => castDm (.int .i64) .imm d1 fun x1 => bindO (laws_heldInt64S N x0 x1) fun r => k [⟨(.int .i64), .imm, r⟩] []) = some y := h
  clear h
  obtain ⟨x0, rfl, h1⟩ := castDm_eq h0
  obtain ⟨x1, rfl, h2⟩ := castDm_eq h1
  exact con_fin (laws_heldInt64S.b N x0 x1) h2
noncomputable def laws_FnExactCompMatch.con (N : Nat) : Con := { modes := [.v, .v], ptrs := [false], fn := fun ds k => match ds with | [d0, d1] => castDm (.sl 29 (.sl 2 (.int .i64))) .imm d0 fun x0 => castDm (.sl 2 (.int .i64)) .imm d1 fun x1 => bindO (laws_FnExactCompMatch N x0 x1) fun r => k [⟨.bool, .imm, r⟩] [] | _ => none }
noncomputable def laws_FnExactCompMatch.cfg (N : Nat) : Cfg := { ty := tys, keep := [19, 23, 25, 26, 28, 30, 33, 36, 40, 41, 45, 46, 50, 53, 59, 64, 67, 74, 76, 77, 80, 84], flt := [], elm := [(24, (.own (.own .imm))), (29, (.own .imm)), (30, (.pr (.own .imm) .imm)), (31, (.pr (.own .imm) .imm)), (34, (.pr (.own .imm) .imm)), (45, (.own .imm)), (59, (.own .imm))], live := [], ord := [], con := [((9, [.one, .one]), laws_szInt64SS.con N), ((11, [.one]), laws_toInt64SS.con N), ((24, [.one]), laws_toInt64S.con N), ((23, [.one, .one]), spec_CompMatch.con N), ((25, [.one, .one]), impl_CompMatch.con N), ((18, [.one, .one]), laws_eqInt64S.con N), ((13, [.one, .one]), laws_eqInt64SS.con N), ((26, [.one, .one]), laws_markInt64SS.con N), ((21, [.one, .one]), laws_markInt64S.con N), ((22, [.one, .one]), laws_heldInt64S.con N)], loops := [], joins := [] }
theorem laws_FnExactCompMatch.cons (N : Nat) : ConsOk Try.prog (laws_FnExactCompMatch.cfg N).con := (consOk_cons (hb9) (laws_szInt64SS.ok N) (consOk_cons (hb11) (laws_toInt64SS.ok N) (consOk_cons (hb24) (laws_toInt64S.ok N) (consOk_cons (hb23) (spec_CompMatch.ok N) (consOk_cons (hb25) (impl_CompMatch.ok N) (consOk_cons (hb18) (laws_eqInt64S.ok N) (consOk_cons (hb13) (laws_eqInt64SS.ok N) (consOk_cons (hb26) (laws_markInt64SS.ok N) (consOk_cons (hb21) (laws_markInt64S.ok N) (consOk_cons (hb22) (laws_heldInt64S.ok N) consOk_nil))))))))))
theorem laws_FnExactCompMatch.ls (N : Nat) : LoopsOk Try.prog (laws_FnExactCompMatch.cfg N) (fnBody Try.f6) := loopsL (l := []) (by kernel_rfl) trivial
theorem laws_FnExactCompMatch.b (N : Nat) (x0 : den (.sl 29 (.sl 2 (.int .i64)))) (x1 : den (.sl 2 (.int .i64))) : body (laws_FnExactCompMatch.cfg N) N Try.f6 [.one, .one] [.v, .v] [(false, .imm)] [⟨(.sl 29 (.sl 2 (.int .i64))), .imm, x0⟩, ⟨(.sl 2 (.int .i64)), .imm, x1⟩] (fun r i => some (r, i)) = bindO (laws_FnExactCompMatch N x0 x1) fun r => some ([⟨.bool, .imm, r⟩], []) := by
  show _ = bindF _ _
  conv => rhs; simp only [laws_FnExactCompMatch, bindF_ifB, bindF_bindO, bindF_pure, bindF_none, bindF_onSum]
  kernel_rfl
theorem laws_FnExactCompMatch.ok (N : Nat) : ConOk Try.prog 6 [.one, .one] (laws_FnExactCompMatch.con N) := by
  refine conOk_mk (g := laws_FnExactCompMatch.cfg N) (N := N) (res := [(false, .imm)]) tys_ok (laws_FnExactCompMatch.cons N) mixed Try.func6 (laws_FnExactCompMatch.ls N) rfl rfl ?_
  intro ds R k y h
  cases ds with
  | nil => exact none_some h
  | cons d0 ds =>
  cases ds with
  | nil => exact none_some h
  | cons d1 ds =>
  cases ds with
  | cons _ _ => exact none_some h
  | nil =>
  have h0 : (castDm (.sl 29 (.sl 2 (.int .i64))) .imm d0 fun x0 => castDm (.sl 2 (.int .i64)) .imm d1 fun x1 => bindO (laws_FnExactCompMatch N x0 x1) fun r => k [⟨.bool, .imm, r⟩] []) = some y := h
  clear h
  obtain ⟨x0, rfl, h1⟩ := castDm_eq h0
  obtain ⟨x1, rfl, h2⟩ := castDm_eq h1
  exact con_fin (laws_FnExactCompMatch.b N x0 x1) h2
end Go.AE.F
