/- The printed functions are what the program comes to: contracts. -/
import Derived.Test.YtdjhkphgnhbnjaaF2
import Derived.Test.YtdjhkphgnhbnjaaXCompMatchT
namespace Go.AE.F
open Go.AE Go.Proofs
set_option maxRecDepth 100000
noncomputable def laws_szInt64S.con (N : Nat) : Con := { modes := [.v, .v], ptrs := [false], fn := fun ds k => match ds with | [d0, d1] => castDm (.sl 2 (.int .i64)) .imm d0 fun x0 => castDm (.int .i64) .imm d1 fun x1 => bindO (laws_szInt64S N x0 x1) fun r => k [⟨(.int .i64), .imm, r⟩] [] | _ => none }
noncomputable def laws_szInt64S.cfg (N : Nat) : Cfg := { ty := tys, keep := [], flt := [], elm := [(24, (.own (.own .imm))), (29, (.own .imm)), (30, (.pr (.own .imm) .imm)), (31, (.pr (.own .imm) .imm)), (34, (.pr (.own .imm) .imm)), (45, (.own .imm)), (59, (.own .imm))], live := [], ord := [], con := [], loops := [], joins := [] }
theorem laws_szInt64S.cons (N : Nat) : ConsOk Try.prog (laws_szInt64S.cfg N).con := consOk_nil
theorem laws_szInt64S.ls (N : Nat) : LoopsOk Try.prog (laws_szInt64S.cfg N) (fnBody Try.f29) := loopsL (l := []) (by kernel_rfl) trivial
theorem laws_szInt64S.b (N : Nat) (x0 : den (.sl 2 (.int .i64))) (x1 : den (.int .i64)) : body (laws_szInt64S.cfg N) N Try.f29 [.one, .one] [.v, .v] [(false, .imm)] [⟨(.sl 2 (.int .i64)), .imm, x0⟩, ⟨(.int .i64), .imm, x1⟩] (fun r i => some (r, i)) = bindO (laws_szInt64S N x0 x1) fun r => some ([⟨(.int .i64), .imm, r⟩], []) := by
  show _ = bindF _ _
  conv => rhs; simp only [laws_szInt64S, bindF_ifB, bindF_bindO, bindF_pure, bindF_none, bindF_onSum]
  kernel_rfl
theorem laws_szInt64S.ok (N : Nat) : ConOk Try.prog 29 [.one, .one] (laws_szInt64S.con N) := by
  refine conOk_mk (g := laws_szInt64S.cfg N) (N := N) (res := [(false, .imm)]) tys_ok (laws_szInt64S.cons N) mixed Try.func29 (laws_szInt64S.ls N) rfl rfl ?_
  intro ds R k y h
  cases ds with
  | nil => exact none_some h
  | cons d0 ds =>
  cases ds with
  | nil => exact none_some h
  | cons d1 ds =>
  cases ds with
  | cons _ _ => exact none_some h
  | nil =>
  have h0 : (castDm (.sl 2 (.int .i64)) .imm d0 fun x0 => castDm (.int .i64) .imm d1 fun x1 => bindO (laws_szInt64S N x0 x1) fun r => k [⟨(.int .i64), .imm, r⟩] []) = some y := h
  clear h
  obtain ⟨x0, rfl, h1⟩ := castDm_eq h0
  obtain ⟨x1, rfl, h2⟩ := castDm_eq h1
  exact con_fin (laws_szInt64S.b N x0 x1) h2
def laws_szInt64SS.sk5 : Skel := ⟨[.pv (.sl 29 (.sl 2 (.int .i64))), .pv (.int .i64), .dead, .dead, .dead, .pv (.int .i64), .dead, .dead, .dead, .dead, .dead, .dead, .dead, .dead, .dead, .dead, .dead, .dead, .dead, .dead, .dead, .dead, .dead, .dead, .dead, .dead, .dead], []⟩
def laws_szInt64SS.xs5 : List XS := [⟨.exit 0, [1], ⟨[.dead, .pv (.int .i64), .dead, .dead, .dead, .dead, .dead, .dead, .dead, .dead, .dead, .dead, .dead, .dead, .dead, .dead, .dead, .dead, .dead, .dead, .dead, .dead, .dead, .dead, .dead, .dead, .dead], []⟩⟩, ⟨.ret, [4], ⟨[.dead, .dead, .dead, .dead, .pv (.int .i64), .dead, .dead, .dead, .dead, .dead, .dead, .dead, .dead, .dead, .dead, .dead, .dead, .dead, .dead, .dead, .dead, .dead, .dead, .dead, .dead, .dead, .dead], []⟩⟩]
noncomputable def laws_szInt64SS.con (N : Nat) : Con := { modes := [.v, .v], ptrs := [false], fn := fun ds k => match ds with | [d0, d1] => castDm (.sl 29 (.sl 2 (.int .i64))) .imm d0 fun x0 => castDm (.int .i64) .imm d1 fun x1 => bindO (laws_szInt64SS N x0 x1) fun r => k [⟨(.int .i64), .imm, r⟩] [] | _ => none }
noncomputable def laws_szInt64SS.cfg (N : Nat) : Cfg := { ty := tys, keep := [23], flt := [], elm := [(24, (.own (.own .imm))), (29, (.own .imm)), (30, (.pr (.own .imm) .imm)), (31, (.pr (.own .imm) .imm)), (34, (.pr (.own .imm) .imm)), (45, (.own .imm)), (59, (.own .imm))], live := [(5, [0, 1, 5])], ord := [], con := [((29, [.one, .one]), laws_szInt64S.con N)], loops := [(5, loopCon N laws_szInt64SS.sk5 laws_szInt64SS.xs5 (fun {R} => laws_szInt64SS.l5 (R := R) N))], joins := [] }
theorem laws_szInt64SS.cons (N : Nat) : ConsOk Try.prog (laws_szInt64SS.cfg N).con := (consOk_cons (hb29) (laws_szInt64S.ok N) consOk_nil)
theorem laws_szInt64SS.h5 {R : Type} (N : Nat) (d : laws_szInt64SS.sk5.D) (kn : laws_szInt64SS.sk5.D → Option R) (kx : XD laws_szInt64SS.xs5 → Option R) : roundK (laws_szInt64SS.cfg N) N (nthLoop (fnBody Try.f9) 0) laws_szInt64SS.sk5 laws_szInt64SS.xs5 d kn kx = laws_szInt64SS.l5 N d kn kx := by kernel_rfl
theorem laws_szInt64SS.i5 (N : Nat) : LoopsOk Try.prog (laws_szInt64SS.cfg N) (nthLoop (fnBody Try.f9) 0) := loopsL (l := []) (by kernel_rfl) trivial
theorem laws_szInt64SS.o5 (N : Nat) : LoopOk Try.prog (nthLoop (fnBody Try.f9) 0) (loopCon N laws_szInt64SS.sk5 laws_szInt64SS.xs5 (fun {R} => laws_szInt64SS.l5 (R := R) N)) := loop_ok (g := laws_szInt64SS.cfg N) tys_ok (laws_szInt64SS.cons N) mixed (laws_szInt64SS.i5 N) (fun d kn kx => laws_szInt64SS.h5 N d kn kx)
theorem laws_szInt64SS.ls (N : Nat) : LoopsOk Try.prog (laws_szInt64SS.cfg N) (fnBody Try.f9) := loopsL (l := [nthLoop (fnBody Try.f9) 0]) (by kernel_rfl) ⟨loopOne (L0 := loopCon N laws_szInt64SS.sk5 laws_szInt64SS.xs5 (fun {R} => laws_szInt64SS.l5 (R := R) N)) (id := 5) (by kernel_rfl) (by kernel_rfl) (laws_szInt64SS.o5 N), trivial⟩
theorem laws_szInt64SS.q5 {R R' : Type} {N n : Nat} {d} {k} {g : R → Option R'} : bindF (loopP (laws_szInt64SS.l5 N) n d k) g = loopP (laws_szInt64SS.l5 N) n d fun e => bindF (k e) g := bindF_loopP (fun d kn kx => by simp only [laws_szInt64SS.l5, bindF_ifB, bindF_bindO, bindF_pure, bindF_none, bindF_onSum]) n d k
theorem laws_szInt64SS.b (N : Nat) (x0 : den (.sl 29 (.sl 2 (.int .i64)))) (x1 : den (.int .i64)) : body (laws_szInt64SS.cfg N) N Try.f9 [.one, .one] [.v, .v] [(false, .imm)] [⟨(.sl 29 (.sl 2 (.int .i64))), .imm, x0⟩, ⟨(.int .i64), .imm, x1⟩] (fun r i => some (r, i)) = bindO (laws_szInt64SS N x0 x1) fun r => some ([⟨(.int .i64), .imm, r⟩], []) := by
  show _ = bindF _ _
  conv => rhs; simp only [laws_szInt64SS, bindF_ifB, bindF_bindO, bindF_pure, bindF_none, bindF_onSum, laws_szInt64SS.q5]
  kernel_rfl
theorem laws_szInt64SS.ok (N : Nat) : ConOk Try.prog 9 [.one, .one] (laws_szInt64SS.con N) := by
  refine conOk_mk (g := laws_szInt64SS.cfg N) (N := N) (res := [(false, .imm)]) tys_ok (laws_szInt64SS.cons N) mixed Try.func9 (laws_szInt64SS.ls N) rfl rfl ?_
  intro ds R k y h
  cases ds with
  | nil => exact none_some h
  | cons d0 ds =>
  cases ds with
  | nil => exact none_some h
  | cons d1 ds =>
  cases ds with
  | cons _ _ => exact none_some h
  | nil =>
  have h0 : (castDm (.sl 29 (.sl 2 (.int .i64))) .imm d0 fun x0 => castDm (.int .i64) .imm d1 fun x1 => bindO (laws_szInt64SS N x0 x1) fun r => k [⟨(.int .i64), .imm, r⟩] []) = some y := h
  clear h
  obtain ⟨x0, rfl, h1⟩ := castDm_eq h0
  obtain ⟨x1, rfl, h2⟩ := castDm_eq h1
  exact con_fin (laws_szInt64SS.b N x0 x1) h2
def laws_toInt64S.sk3 : Skel := ⟨[.pv (.sl 2 (.int .i64)), .dead, .dead, .ov 50 [], .pv (.int .i64), .dead, .dead, .dead, .dead, .dead, .dead, .dead, .dead, .dead, .dead, .dead, .dead, .dead, .dead, .dead, .dead, .dead], [⟨50, (.sl 2 (.int .i64)), (.own .imm), false, false⟩]⟩
def laws_toInt64S.xs3 : List XS := [⟨.exit 0, [3], ⟨[.dead, .dead, .dead, .ov 50 [], .dead, .dead, .dead, .dead, .dead, .dead, .dead, .dead, .dead, .dead, .dead, .dead, .dead, .dead, .dead, .dead, .dead, .dead], [⟨50, (.sl 2 (.int .i64)), (.own .imm), false, false⟩]⟩⟩]
noncomputable def laws_toInt64S.con (N : Nat) : Con := { modes := [.v], ptrs := [false], fn := fun ds k => match ds with | [d0] => castDm (.sl 2 (.int .i64)) .imm d0 fun x0 => bindO (laws_toInt64S N x0) fun r => k [⟨(.sl 2 (.int .i64)), (.own .imm), r⟩] [] | _ => none }
noncomputable def laws_toInt64S.cfg (N : Nat) : Cfg := { ty := tys, keep := [], flt := [], elm := [(24, (.own (.own .imm))), (29, (.own .imm)), (30, (.pr (.own .imm) .imm)), (31, (.pr (.own .imm) .imm)), (34, (.pr (.own .imm) .imm)), (45, (.own .imm)), (59, (.own .imm))], live := [(3, [0, 3, 4])], ord := [], con := [], loops := [(3, loopCon N laws_toInt64S.sk3 laws_toInt64S.xs3 (fun {R} => laws_toInt64S.l3 (R := R) N))], joins := [] }
theorem laws_toInt64S.cons (N : Nat) : ConsOk Try.prog (laws_toInt64S.cfg N).con := consOk_nil
theorem laws_toInt64S.h3 {R : Type} (N : Nat) (d : laws_toInt64S.sk3.D) (kn : laws_toInt64S.sk3.D → Option R) (kx : XD laws_toInt64S.xs3 → Option R) : roundK (laws_toInt64S.cfg N) N (nthLoop (fnBody Try.f24) 0) laws_toInt64S.sk3 laws_toInt64S.xs3 d kn kx = laws_toInt64S.l3 N d kn kx := by kernel_rfl
theorem laws_toInt64S.i3 (N : Nat) : LoopsOk Try.prog (laws_toInt64S.cfg N) (nthLoop (fnBody Try.f24) 0) := loopsL (l := []) (by kernel_rfl) trivial
theorem laws_toInt64S.o3 (N : Nat) : LoopOk Try.prog (nthLoop (fnBody Try.f24) 0) (loopCon N laws_toInt64S.sk3 laws_toInt64S.xs3 (fun {R} => laws_toInt64S.l3 (R := R) N)) := loop_ok (g := laws_toInt64S.cfg N) tys_ok (laws_toInt64S.cons N) mixed (laws_toInt64S.i3 N) (fun d kn kx => laws_toInt64S.h3 N d kn kx)
theorem laws_toInt64S.ls (N : Nat) : LoopsOk Try.prog (laws_toInt64S.cfg N) (fnBody Try.f24) := loopsL (l := [nthLoop (fnBody Try.f24) 0]) (by kernel_rfl) ⟨loopOne (L0 := loopCon N laws_toInt64S.sk3 laws_toInt64S.xs3 (fun {R} => laws_toInt64S.l3 (R := R) N)) (id := 3) (by kernel_rfl) (by kernel_rfl) (laws_toInt64S.o3 N), trivial⟩
theorem laws_toInt64S.q3 {R R' : Type} {N n : Nat} {d} {k} {g : R → Option R'} : bindF (loopP (laws_toInt64S.l3 N) n d k) g = loopP (laws_toInt64S.l3 N) n d fun e => bindF (k e) g := bindF_loopP (fun d kn kx => by simp only [laws_toInt64S.l3, bindF_ifB, bindF_bindO, bindF_pure, bindF_none, bindF_onSum]) n d k
theorem laws_toInt64S.b (N : Nat) (x0 : den (.sl 2 (.int .i64))) : body (laws_toInt64S.cfg N) N Try.f24 [.one] [.v] [(false, (.own .imm))] [⟨(.sl 2 (.int .i64)), .imm, x0⟩] (fun r i => some (r, i)) = bindO (laws_toInt64S N x0) fun r => some ([⟨(.sl 2 (.int .i64)), (.own .imm), r⟩], []) := by
  show _ = bindF _ _
  conv => rhs; simp only [laws_toInt64S, bindF_ifB, bindF_bindO, bindF_pure, bindF_none, bindF_onSum, laws_toInt64S.q3]
  kernel_rfl
theorem laws_toInt64S.ok (N : Nat) : ConOk Try.prog 24 [.one] (laws_toInt64S.con N) := by
  refine conOk_mk (g := laws_toInt64S.cfg N) (N := N) (res := [(false, (.own .imm))]) tys_ok (laws_toInt64S.cons N) mixed Try.func24 (laws_toInt64S.ls N) rfl rfl ?_
  intro ds R k y h
  cases ds with
  | nil => exact none_some h
  | cons d0 ds =>
  cases ds with
  | cons _ _ => exact none_some h
  | nil =>
  have h0 : (castDm (.sl 2 (.int .i64)) .imm d0 fun x0 => bindO (laws_toInt64S N x0) fun r => k [⟨(.sl 2 (.int .i64)), (.own .imm), r⟩] []) = some y := h
  clear h
  obtain ⟨x0, rfl, h1⟩ := castDm_eq h0
  exact con_fin (laws_toInt64S.b N x0) h1
def laws_toInt64SS.sk3 : Skel := ⟨[.pv (.sl 29 (.sl 2 (.int .i64))), .dead, .dead, .ov 50 [], .pv (.int .i64), .dead, .dead, .dead, .dead, .dead, .dead, .dead, .dead, .dead, .dead, .dead, .dead, .dead, .dead, .dead, .dead, .dead, .dead], [⟨50, (.sl 29 (.sl 2 (.int .i64))), (.own (.own .imm)), false, false⟩]⟩
def laws_toInt64SS.xs3 : List XS := [⟨.exit 0, [3], ⟨[.dead, .dead, .dead, .ov 50 [], .dead, .dead, .dead, .dead, .dead, .dead, .dead, .dead, .dead, .dead, .dead, .dead, .dead, .dead, .dead, .dead, .dead, .dead, .dead], [⟨50, (.sl 29 (.sl 2 (.int .i64))), (.own (.own .imm)), false, false⟩]⟩⟩]
noncomputable def laws_toInt64SS.con (N : Nat) : Con := { modes := [.v], ptrs := [false], fn := fun ds k => match ds with | [d0] => castDm (.sl 29 (.sl 2 (.int .i64))) .imm d0 fun x0 => bindO (laws_toInt64SS N x0) fun r => k [⟨(.sl 29 (.sl 2 (.int .i64))), (.own (.own .imm)), r⟩] [] | _ => none }
noncomputable def laws_toInt64SS.cfg (N : Nat) : Cfg := { ty := tys, keep := [20], flt := [], elm := [(24, (.own (.own .imm))), (29, (.own .imm)), (30, (.pr (.own .imm) .imm)), (31, (.pr (.own .imm) .imm)), (34, (.pr (.own .imm) .imm)), (45, (.own .imm)), (59, (.own .imm))], live := [(3, [0, 3, 4])], ord := [], con := [((24, [.one]), laws_toInt64S.con N)], loops := [(3, loopCon N laws_toInt64SS.sk3 laws_toInt64SS.xs3 (fun {R} => laws_toInt64SS.l3 (R := R) N))], joins := [] }
theorem laws_toInt64SS.cons (N : Nat) : ConsOk Try.prog (laws_toInt64SS.cfg N).con := (consOk_cons (hb24) (laws_toInt64S.ok N) consOk_nil)
theorem laws_toInt64SS.h3 {R : Type} (N : Nat) (d : laws_toInt64SS.sk3.D) (kn : laws_toInt64SS.sk3.D → Option R) (kx : XD laws_toInt64SS.xs3 → Option R) : roundK (laws_toInt64SS.cfg N) N (nthLoop (fnBody Try.f11) 0) laws_toInt64SS.sk3 laws_toInt64SS.xs3 d kn kx = laws_toInt64SS.l3 N d kn kx := by kernel_rfl
theorem laws_toInt64SS.i3 (N : Nat) : LoopsOk Try.prog (laws_toInt64SS.cfg N) (nthLoop (fnBody Try.f11) 0) := loopsL (l := []) (by kernel_rfl) trivial
theorem laws_toInt64SS.o3 (N : Nat) : LoopOk Try.prog (nthLoop (fnBody Try.f11) 0) (loopCon N laws_toInt64SS.sk3 laws_toInt64SS.xs3 (fun {R} => laws_toInt64SS.l3 (R := R) N)) := loop_ok (g := laws_toInt64SS.cfg N) tys_ok (laws_toInt64SS.cons N) mixed (laws_toInt64SS.i3 N) (fun d kn kx => laws_toInt64SS.h3 N d kn kx)
theorem laws_toInt64SS.ls (N : Nat) : LoopsOk Try.prog (laws_toInt64SS.cfg N) (fnBody Try.f11) := loopsL (l := [nthLoop (fnBody Try.f11) 0]) (by kernel_rfl) ⟨loopOne (L0 := loopCon N laws_toInt64SS.sk3 laws_toInt64SS.xs3 (fun {R} => laws_toInt64SS.l3 (R := R) N)) (id := 3) (by kernel_rfl) (by kernel_rfl) (laws_toInt64SS.o3 N), trivial⟩
theorem laws_toInt64SS.q3 {R R' : Type} {N n : Nat} {d} {k} {g : R → Option R'} : bindF (loopP (laws_toInt64SS.l3 N) n d k) g = loopP (laws_toInt64SS.l3 N) n d fun e => bindF (k e) g := bindF_loopP (fun d kn kx => by simp only [laws_toInt64SS.l3, bindF_ifB, bindF_bindO, bindF_pure, bindF_none, bindF_onSum]) n d k
theorem laws_toInt64SS.b (N : Nat) (x0 : den (.sl 29 (.sl 2 (.int .i64)))) : body (laws_toInt64SS.cfg N) N Try.f11 [.one] [.v] [(false, (.own (.own .imm)))] [⟨(.sl 29 (.sl 2 (.int .i64))), .imm, x0⟩] (fun r i => some (r, i)) = bindO (laws_toInt64SS N x0) fun r => some ([⟨(.sl 29 (.sl 2 (.int .i64))), (.own (.own .imm)), r⟩], []) := by
  show _ = bindF _ _
  conv => rhs; simp only [laws_toInt64SS, bindF_ifB, bindF_bindO, bindF_pure, bindF_none, bindF_onSum, laws_toInt64SS.q3]
  kernel_rfl
theorem laws_toInt64SS.ok (N : Nat) : ConOk Try.prog 11 [.one] (laws_toInt64SS.con N) := by
  refine conOk_mk (g := laws_toInt64SS.cfg N) (N := N) (res := [(false, (.own (.own .imm)))]) tys_ok (laws_toInt64SS.cons N) mixed Try.func11 (laws_toInt64SS.ls N) rfl rfl ?_
  intro ds R k y h
  cases ds with
  | nil => exact none_some h
  | cons d0 ds =>
  cases ds with
  | cons _ _ => exact none_some h
  | nil =>
  have h0 : (castDm (.sl 29 (.sl 2 (.int .i64))) .imm d0 fun x0 => bindO (laws_toInt64SS N x0) fun r => k [⟨(.sl 29 (.sl 2 (.int .i64))), (.own (.own .imm)), r⟩] []) = some y := h
  clear h
  obtain ⟨x0, rfl, h1⟩ := castDm_eq h0
  exact con_fin (laws_toInt64SS.b N x0) h1
noncomputable def spec_l01Point.con (N : Nat) : Con := { modes := [.v], ptrs := [false], fn := fun ds k => match ds with | [d0] => castDm (.int .i64) .imm d0 fun x0 => bindO (spec_l01Point N x0) fun r => k [⟨.bool, .imm, r⟩] [] | _ => none }
noncomputable def spec_l01Point.cfg (N : Nat) : Cfg := { ty := tys, keep := [], flt := [], elm := [(24, (.own (.own .imm))), (29, (.own .imm)), (30, (.pr (.own .imm) .imm)), (31, (.pr (.own .imm) .imm)), (34, (.pr (.own .imm) .imm)), (45, (.own .imm)), (59, (.own .imm))], live := [], ord := [], con := [], loops := [], joins := [] }
theorem spec_l01Point.cons (N : Nat) : ConsOk Try.prog (spec_l01Point.cfg N).con := consOk_nil
theorem spec_l01Point.ls (N : Nat) : LoopsOk Try.prog (spec_l01Point.cfg N) (fnBody Try.f50) := loopsL (l := []) (by kernel_rfl) trivial
theorem spec_l01Point.b (N : Nat) (x0 : den (.int .i64)) : body (spec_l01Point.cfg N) N Try.f50 [.one] [.v] [(false, .imm)] [⟨(.int .i64), .imm, x0⟩] (fun r i => some (r, i)) = bindO (spec_l01Point N x0) fun r => some ([⟨.bool, .imm, r⟩], []) := by
  show _ = bindF _ _
  conv => rhs; simp only [spec_l01Point, bindF_ifB, bindF_bindO, bindF_pure, bindF_none, bindF_onSum]
  kernel_rfl
theorem spec_l01Point.ok (N : Nat) : ConOk Try.prog 50 [.one] (spec_l01Point.con N) := by
  refine conOk_mk (g := spec_l01Point.cfg N) (N := N) (res := [(false, .imm)]) tys_ok (spec_l01Point.cons N) mixed Try.func50 (spec_l01Point.ls N) rfl rfl ?_
  intro ds R k y h
  cases ds with
  | nil => exact none_some h
  | cons d0 ds =>
  cases ds with
  | cons _ _ => exact none_some h
  | nil =>
  have h0 : (castDm (.int .i64) .imm d0 fun x0 => bindO (spec_l01Point N x0) fun r => k [⟨.bool, .imm, r⟩] []) = some y := h
  clear h
  obtain ⟨x0, rfl, h1⟩ := castDm_eq h0
  exact con_fin (spec_l01Point.b N x0) h1
noncomputable def spec_ClassOf.con (N : Nat) : Con := { modes := [.v], ptrs := [false], fn := fun ds k => match ds with | [d0] => castDm (.int .i64) .imm d0 fun x0 => bindO (spec_ClassOf N x0) fun r => k [⟨(.int .i64), .imm, r⟩] [] | _ => none }
noncomputable def spec_ClassOf.cfg (N : Nat) : Cfg := { ty := tys, keep := [4], flt := [], elm := [(24, (.own (.own .imm))), (29, (.own .imm)), (30, (.pr (.own .imm) .imm)), (31, (.pr (.own .imm) .imm)), (34, (.pr (.own .imm) .imm)), (45, (.own .imm)), (59, (.own .imm))], live := [], ord := [], con := [((50, [.one]), spec_l01Point.con N)], loops := [], joins := [] }
theorem spec_ClassOf.cons (N : Nat) : ConsOk Try.prog (spec_ClassOf.cfg N).con := (consOk_cons (hb50) (spec_l01Point.ok N) consOk_nil)
theorem spec_ClassOf.ls (N : Nat) : LoopsOk Try.prog (spec_ClassOf.cfg N) (fnBody Try.f30) := loopsL (l := []) (by kernel_rfl) trivial
theorem spec_ClassOf.b (N : Nat) (x0 : den (.int .i64)) : body (spec_ClassOf.cfg N) N Try.f30 [.one] [.v] [(false, .imm)] [⟨(.int .i64), .imm, x0⟩] (fun r i => some (r, i)) = bindO (spec_ClassOf N x0) fun r => some ([⟨(.int .i64), .imm, r⟩], []) := by
  show _ = bindF _ _
  conv => rhs; simp only [spec_ClassOf, bindF_ifB, bindF_bindO, bindF_pure, bindF_none, bindF_onSum]
  kernel_rfl
theorem spec_ClassOf.ok (N : Nat) : ConOk Try.prog 30 [.one] (spec_ClassOf.con N) := by
  refine conOk_mk (g := spec_ClassOf.cfg N) (N := N) (res := [(false, .imm)]) tys_ok (spec_ClassOf.cons N) mixed Try.func30 (spec_ClassOf.ls N) rfl rfl ?_
  intro ds R k y h
  cases ds with
  | nil => exact none_some h
  | cons d0 ds =>
  cases ds with
  | cons _ _ => exact none_some h
  | nil =>
  have h0 : (castDm (.int .i64) .imm d0 fun x0 => bindO (spec_ClassOf N x0) fun r => k [⟨(.int .i64), .imm, r⟩] []) = some y := h
  clear h
  obtain ⟨x0, rfl, h1⟩ := castDm_eq h0
  exact con_fin (spec_ClassOf.b N x0) h1
def spec_CandsRight.sk4 : Skel := ⟨[.pv (.sl 29 (.sl 2 (.int .i64))), .dead, .dead, .pv (.int .i64), .dead, .dead, .dead, .dead, .dead, .dead, .dead, .dead, .dead, .dead, .dead, .dead, .dead, .dead, .dead, .dead, .dead, .dead, .dead, .dead, .dead, .dead, .dead, .dead, .dead, .dead, .dead, .dead, .dead, .dead, .dead, .dead, .dead, .dead, .dead, .dead, .dead, .dead, .dead, .dead, .dead, .dead], []⟩
def spec_CandsRight.xs4 : List XS := [⟨.exit 0, [], ⟨[.dead, .dead, .dead, .dead, .dead, .dead, .dead, .dead, .dead, .dead, .dead, .dead, .dead, .dead, .dead, .dead, .dead, .dead, .dead, .dead, .dead, .dead, .dead, .dead, .dead, .dead, .dead, .dead, .dead, .dead, .dead, .dead, .dead, .dead, .dead, .dead, .dead, .dead, .dead, .dead, .dead, .dead, .dead, .dead, .dead, .dead], []⟩⟩, ⟨.ret, [2], ⟨[.dead, .dead, .pv .bool, .dead, .dead, .dead, .dead, .dead, .dead, .dead, .dead, .dead, .dead, .dead, .dead, .dead, .dead, .dead, .dead, .dead, .dead, .dead, .dead, .dead, .dead, .dead, .dead, .dead, .dead, .dead, .dead, .dead, .dead, .dead, .dead, .dead, .dead, .dead, .dead, .dead, .dead, .dead, .dead, .dead, .dead, .dead], []⟩⟩]
def spec_CandsRight.sk9 : Skel := ⟨[.pv (.sl 29 (.sl 2 (.int .i64))), .dead, .dead, .pv (.int .i64), .pv (.int .i64), .dead, .dead, .dead, .dead, .dead, .dead, .dead, .dead, .dead, .dead, .dead, .dead, .dead, .dead, .dead, .dead, .dead, .dead, .dead, .dead, .dead, .dead, .dead, .dead, .dead, .dead, .dead, .dead, .dead, .dead, .dead, .dead, .dead, .dead, .dead, .dead, .dead, .dead, .dead, .dead, .dead], []⟩
def spec_CandsRight.xs9 : List XS := [⟨.exit 2, [0, 3, 21, 22, 23, 24, 25, 26], ⟨[.pv (.sl 29 (.sl 2 (.int .i64))), .dead, .dead, .pv (.int .i64), .dead, .dead, .dead, .dead, .dead, .dead, .dead, .dead, .dead, .dead, .dead, .dead, .dead, .dead, .dead, .dead, .dead, .dead, .dead, .dead, .dead, .dead, .dead, .dead, .dead, .dead, .dead, .dead, .dead, .dead, .dead, .dead, .dead, .dead, .dead, .dead, .dead, .dead, .dead, .dead, .dead, .dead], []⟩⟩, ⟨.ret, [2], ⟨[.dead, .dead, .pv .bool, .dead, .dead, .dead, .dead, .dead, .dead, .dead, .dead, .dead, .dead, .dead, .dead, .dead, .dead, .dead, .dead, .dead, .dead, .dead, .dead, .dead, .dead, .dead, .dead, .dead, .dead, .dead, .dead, .dead, .dead, .dead, .dead, .dead, .dead, .dead, .dead, .dead, .dead, .dead, .dead, .dead, .dead, .dead], []⟩⟩]
noncomputable def spec_CandsRight.con (N : Nat) : Con := { modes := [.v], ptrs := [false], fn := fun ds k => match ds with | [d0] => castDm (.sl 29 (.sl 2 (.int .i64))) .imm d0 fun x0 => bindO (spec_CandsRight N x0) fun r => k [⟨.bool, .imm, r⟩] [] | _ => none }
noncomputable def spec_CandsRight.cfg (N : Nat) : Cfg := { ty := tys, keep := [44], flt := [], elm := [(24, (.own (.own .imm))), (29, (.own .imm)), (30, (.pr (.own .imm) .imm)), (31, (.pr (.own .imm) .imm)), (34, (.pr (.own .imm) .imm)), (45, (.own .imm)), (59, (.own .imm))], live := [(9, [0, 3, 4, 21, 22, 23, 24, 25, 26]), (4, [0, 3, 21, 22, 23, 24, 25, 26])], ord := [], con := [((30, [.one]), spec_ClassOf.con N)], loops := [(4, loopCon N spec_CandsRight.sk4 spec_CandsRight.xs4 (fun {R} => spec_CandsRight.l4 (R := R) N)), (9, loopCon N spec_CandsRight.sk9 spec_CandsRight.xs9 (fun {R} => spec_CandsRight.l9 (R := R) N))], joins := [] }
theorem spec_CandsRight.cons (N : Nat) : ConsOk Try.prog (spec_CandsRight.cfg N).con := (consOk_cons (hb30) (spec_ClassOf.ok N) consOk_nil)
theorem spec_CandsRight.h9 {R : Type} (N : Nat) (d : spec_CandsRight.sk9.D) (kn : spec_CandsRight.sk9.D → Option R) (kx : XD spec_CandsRight.xs9 → Option R) : roundK (spec_CandsRight.cfg N) N (nthLoop (fnBody Try.f10) 1) spec_CandsRight.sk9 spec_CandsRight.xs9 d kn kx = spec_CandsRight.l9 N d kn kx := by kernel_rfl
theorem spec_CandsRight.i9 (N : Nat) : LoopsOk Try.prog (spec_CandsRight.cfg N) (nthLoop (fnBody Try.f10) 1) := loopsL (l := []) (by kernel_rfl) trivial
theorem spec_CandsRight.o9 (N : Nat) : LoopOk Try.prog (nthLoop (fnBody Try.f10) 1) (loopCon N spec_CandsRight.sk9 spec_CandsRight.xs9 (fun {R} => spec_CandsRight.l9 (R := R) N)) := loop_ok (g := spec_CandsRight.cfg N) tys_ok (spec_CandsRight.cons N) mixed (spec_CandsRight.i9 N) (fun d kn kx => spec_CandsRight.h9 N d kn kx)
theorem spec_CandsRight.h4 {R : Type} (N : Nat) (d : spec_CandsRight.sk4.D) (kn : spec_CandsRight.sk4.D → Option R) (kx : XD spec_CandsRight.xs4 → Option R) : roundK (spec_CandsRight.cfg N) N (nthLoop (fnBody Try.f10) 0) spec_CandsRight.sk4 spec_CandsRight.xs4 d kn kx = spec_CandsRight.l4 N d kn kx := by kernel_rfl
theorem spec_CandsRight.i4 (N : Nat) : LoopsOk Try.prog (spec_CandsRight.cfg N) (nthLoop (fnBody Try.f10) 0) := loopsL (l := [nthLoop (fnBody Try.f10) 1]) (by kernel_rfl) ⟨loopOne (L0 := loopCon N spec_CandsRight.sk9 spec_CandsRight.xs9 (fun {R} => spec_CandsRight.l9 (R := R) N)) (id := 9) (by kernel_rfl) (by kernel_rfl) (spec_CandsRight.o9 N), trivial⟩
theorem spec_CandsRight.o4 (N : Nat) : LoopOk Try.prog (nthLoop (fnBody Try.f10) 0) (loopCon N spec_CandsRight.sk4 spec_CandsRight.xs4 (fun {R} => spec_CandsRight.l4 (R := R) N)) := loop_ok (g := spec_CandsRight.cfg N) tys_ok (spec_CandsRight.cons N) mixed (spec_CandsRight.i4 N) (fun d kn kx => spec_CandsRight.h4 N d kn kx)
theorem spec_CandsRight.ls (N : Nat) : LoopsOk Try.prog (spec_CandsRight.cfg N) (fnBody Try.f10) := loopsL (l := [nthLoop (fnBody Try.f10) 0, nthLoop (fnBody Try.f10) 1]) (by kernel_rfl) ⟨loopOne (L0 := loopCon N spec_CandsRight.sk4 spec_CandsRight.xs4 (fun {R} => spec_CandsRight.l4 (R := R) N)) (id := 4) (by kernel_rfl) (by kernel_rfl) (spec_CandsRight.o4 N), ⟨loopOne (L0 := loopCon N spec_CandsRight.sk9 spec_CandsRight.xs9 (fun {R} => spec_CandsRight.l9 (R := R) N)) (id := 9) (by kernel_rfl) (by kernel_rfl) (spec_CandsRight.o9 N), trivial⟩⟩
theorem spec_CandsRight.q9 {R R' : Type} {N n : Nat} {d} {k} {g : R → Option R'} : bindF (loopP (spec_CandsRight.l9 N) n d k) g = loopP (spec_CandsRight.l9 N) n d fun e => bindF (k e) g := bindF_loopP (fun d kn kx => by simp only [spec_CandsRight.l9, bindF_ifB, bindF_bindO, bindF_pure, bindF_none, bindF_onSum]) n d k
theorem spec_CandsRight.q4 {R R' : Type} {N n : Nat} {d} {k} {g : R → Option R'} : bindF (loopP (spec_CandsRight.l4 N) n d k) g = loopP (spec_CandsRight.l4 N) n d fun e => bindF (k e) g := bindF_loopP (fun d kn kx => by simp only [spec_CandsRight.l4, bindF_ifB, bindF_bindO, bindF_pure, bindF_none, bindF_onSum, spec_CandsRight.q9]) n d k
theorem spec_CandsRight.b (N : Nat) (x0 : den (.sl 29 (.sl 2 (.int .i64)))) : body (spec_CandsRight.cfg N) N Try.f10 [.one] [.v] [(false, .imm)] [⟨(.sl 29 (.sl 2 (.int .i64))), .imm, x0⟩] (fun r i => some (r, i)) = bindO (spec_CandsRight N x0) fun r => some ([⟨.bool, .imm, r⟩], []) := by
  show _ = bindF _ _
  conv => rhs; simp only [spec_CandsRight, bindF_ifB, bindF_bindO, bindF_pure, bindF_none, bindF_onSum, spec_CandsRight.q4, spec_CandsRight.q9]
  kernel_rfl
theorem spec_CandsRight.ok (N : Nat) : ConOk Try.prog 10 [.one] (spec_CandsRight.con N) := by
  refine conOk_mk (g := spec_CandsRight.cfg N) (N := N) (res := [(false, .imm)]) tys_ok (spec_CandsRight.cons N) mixed Try.func10 (spec_CandsRight.ls N) rfl rfl ?_
  intro ds R k y h
  cases ds with
  | nil => exact none_some h
  | cons d0 ds =>
  cases ds with
  | cons _ _ => exact none_some h
  | nil =>
  have h0 : (castDm (.sl 29 (.sl 2 (.int .i64))) .imm d0 fun x0 => bindO (spec_CandsRight N x0) fun r => k [⟨.bool, .imm, r⟩] []) = some y := h
  clear h
  obtain ⟨x0, rfl, h1⟩ := castDm_eq h0
  exact con_fin (spec_CandsRight.b N x0) h1
def spec_PointsRight.sk4 : Skel := ⟨[.pv (.sl 2 (.int .i64)), .dead, .dead, .pv (.int .i64), .dead, .dead, .dead, .dead, .dead, .dead, .dead, .dead, .dead, .dead, .dead, .dead, .dead, .dead, .dead], []⟩
def spec_PointsRight.xs4 : List XS := [⟨.exit 0, [], ⟨[.dead, .dead, .dead, .dead, .dead, .dead, .dead, .dead, .dead, .dead, .dead, .dead, .dead, .dead, .dead, .dead, .dead, .dead, .dead], []⟩⟩, ⟨.ret, [2], ⟨[.dead, .dead, .pv .bool, .dead, .dead, .dead, .dead, .dead, .dead, .dead, .dead, .dead, .dead, .dead, .dead, .dead, .dead, .dead, .dead], []⟩⟩]
noncomputable def spec_PointsRight.con (N : Nat) : Con := { modes := [.v], ptrs := [false], fn := fun ds k => match ds with | [d0] => castDm (.sl 2 (.int .i64)) .imm d0 fun x0 => bindO (spec_PointsRight N x0) fun r => k [⟨.bool, .imm, r⟩] [] | _ => none }
noncomputable def spec_PointsRight.cfg (N : Nat) : Cfg := { ty := tys, keep := [17], flt := [], elm := [(24, (.own (.own .imm))), (29, (.own .imm)), (30, (.pr (.own .imm) .imm)), (31, (.pr (.own .imm) .imm)), (34, (.pr (.own .imm) .imm)), (45, (.own .imm)), (59, (.own .imm))], live := [(4, [0, 3])], ord := [], con := [((50, [.one]), spec_l01Point.con N)], loops := [(4, loopCon N spec_PointsRight.sk4 spec_PointsRight.xs4 (fun {R} => spec_PointsRight.l4 (R := R) N))], joins := [] }
theorem spec_PointsRight.cons (N : Nat) : ConsOk Try.prog (spec_PointsRight.cfg N).con := (consOk_cons (hb50) (spec_l01Point.ok N) consOk_nil)
theorem spec_PointsRight.h4 {R : Type} (N : Nat) (d : spec_PointsRight.sk4.D) (kn : spec_PointsRight.sk4.D → Option R) (kx : XD spec_PointsRight.xs4 → Option R) : roundK (spec_PointsRight.cfg N) N (nthLoop (fnBody Try.f44) 0) spec_PointsRight.sk4 spec_PointsRight.xs4 d kn kx = spec_PointsRight.l4 N d kn kx := by kernel_rfl
theorem spec_PointsRight.i4 (N : Nat) : LoopsOk Try.prog (spec_PointsRight.cfg N) (nthLoop (fnBody Try.f44) 0) := loopsL (l := []) (by kernel_rfl) trivial
theorem spec_PointsRight.o4 (N : Nat) : LoopOk Try.prog (nthLoop (fnBody Try.f44) 0) (loopCon N spec_PointsRight.sk4 spec_PointsRight.xs4 (fun {R} => spec_PointsRight.l4 (R := R) N)) := loop_ok (g := spec_PointsRight.cfg N) tys_ok (spec_PointsRight.cons N) mixed (spec_PointsRight.i4 N) (fun d kn kx => spec_PointsRight.h4 N d kn kx)
theorem spec_PointsRight.ls (N : Nat) : LoopsOk Try.prog (spec_PointsRight.cfg N) (fnBody Try.f44) := loopsL (l := [nthLoop (fnBody Try.f44) 0]) (by kernel_rfl) ⟨loopOne (L0 := loopCon N spec_PointsRight.sk4 spec_PointsRight.xs4 (fun {R} => spec_PointsRight.l4 (R := R) N)) (id := 4) (by kernel_rfl) (by kernel_rfl) (spec_PointsRight.o4 N), trivial⟩
theorem spec_PointsRight.q4 {R R' : Type} {N n : Nat} {d} {k} {g : R → Option R'} : bindF (loopP (spec_PointsRight.l4 N) n d k) g = loopP (spec_PointsRight.l4 N) n d fun e => bindF (k e) g := bindF_loopP (fun d kn kx => by simp only [spec_PointsRight.l4, bindF_ifB, bindF_bindO, bindF_pure, bindF_none, bindF_onSum]) n d k
theorem spec_PointsRight.b (N : Nat) (x0 : den (.sl 2 (.int .i64))) : body (spec_PointsRight.cfg N) N Try.f44 [.one] [.v] [(false, .imm)] [⟨(.sl 2 (.int .i64)), .imm, x0⟩] (fun r i => some (r, i)) = bindO (spec_PointsRight N x0) fun r => some ([⟨.bool, .imm, r⟩], []) := by
  show _ = bindF _ _
  conv => rhs; simp only [spec_PointsRight, bindF_ifB, bindF_bindO, bindF_pure, bindF_none, bindF_onSum, spec_PointsRight.q4]
  kernel_rfl
theorem spec_PointsRight.ok (N : Nat) : ConOk Try.prog 44 [.one] (spec_PointsRight.con N) := by
  refine conOk_mk (g := spec_PointsRight.cfg N) (N := N) (res := [(false, .imm)]) tys_ok (spec_PointsRight.cons N) mixed Try.func44 (spec_PointsRight.ls N) rfl rfl ?_
  intro ds R k y h
  cases ds with
  | nil => exact none_some h
  | cons d0 ds =>
  cases ds with
  | cons _ _ => exact none_some h
  | nil =>
  have h0 : (castDm (.sl 2 (.int .i64)) .imm d0 fun x0 => bindO (spec_PointsRight N x0) fun r => k [⟨.bool, .imm, r⟩] []) = some y := h
  clear h
  obtain ⟨x0, rfl, h1⟩ := castDm_eq h0
  exact con_fin (spec_PointsRight.b N x0) h1
def spec_l01Same.sk4 : Skel := ⟨[.pv (.sl 2 (.int .i64)), .pv (.sl 2 (.int .i64)), .dead, .dead, .dead, .pv (.int .i64), .dead, .dead, .dead, .dead, .dead, .dead, .dead, .dead, .dead, .dead, .dead, .dead, .dead, .dead, .dead, .dead, .dead, .dead, .dead, .dead], []⟩
def spec_l01Same.xs4 : List XS := [⟨.exit 0, [], ⟨[.dead, .dead, .dead, .dead, .dead, .dead, .dead, .dead, .dead, .dead, .dead, .dead, .dead, .dead, .dead, .dead, .dead, .dead, .dead, .dead, .dead, .dead, .dead, .dead, .dead, .dead], []⟩⟩, ⟨.ret, [4], ⟨[.dead, .dead, .dead, .dead, .pv .bool, .dead, .dead, .dead, .dead, .dead, .dead, .dead, .dead, .dead, .dead, .dead, .dead, .dead, .dead, .dead, .dead, .dead, .dead, .dead, .dead, .dead], []⟩⟩]
noncomputable def spec_l01Same.con (N : Nat) : Con := { modes := [.v, .v], ptrs := [false], fn := fun ds k => match ds with | [d0, d1] => castDm (.sl 2 (.int .i64)) .imm d0 fun x0 => castDm (.sl 2 (.int .i64)) .imm d1 fun x1 => bindO (spec_l01Same N x0 x1) fun r => k [⟨.bool, .imm, r⟩] [] | _ => none }
noncomputable def spec_l01Same.cfg (N : Nat) : Cfg := { ty := tys, keep := [], flt := [], elm := [(24, (.own (.own .imm))), (29, (.own .imm)), (30, (.pr (.own .imm) .imm)), (31, (.pr (.own .imm) .imm)), (34, (.pr (.own .imm) .imm)), (45, (.own .imm)), (59, (.own .imm))], live := [(4, [0, 1, 5])], ord := [(6, [0, 1, 2, 3, 4, 5, 6, 7, 8])], con := [], loops := [(4, loopCon N spec_l01Same.sk4 spec_l01Same.xs4 (fun {R} => spec_l01Same.l4 (R := R) N))], joins := [] }
theorem spec_l01Same.cons (N : Nat) : ConsOk Try.prog (spec_l01Same.cfg N).con := consOk_nil
theorem spec_l01Same.h4 {R : Type} (N : Nat) (d : spec_l01Same.sk4.D) (kn : spec_l01Same.sk4.D → Option R) (kx : XD spec_l01Same.xs4 → Option R) : roundK (spec_l01Same.cfg N) N (nthLoop (fnBody Try.f57) 0) spec_l01Same.sk4 spec_l01Same.xs4 d kn kx = spec_l01Same.l4 N d kn kx := by kernel_rfl
theorem spec_l01Same.i4 (N : Nat) : LoopsOk Try.prog (spec_l01Same.cfg N) (nthLoop (fnBody Try.f57) 0) := loopsL (l := []) (by kernel_rfl) trivial
theorem spec_l01Same.o4 (N : Nat) : LoopOk Try.prog (nthLoop (fnBody Try.f57) 0) (loopCon N spec_l01Same.sk4 spec_l01Same.xs4 (fun {R} => spec_l01Same.l4 (R := R) N)) := loop_ok (g := spec_l01Same.cfg N) tys_ok (spec_l01Same.cons N) mixed (spec_l01Same.i4 N) (fun d kn kx => spec_l01Same.h4 N d kn kx)
theorem spec_l01Same.ls (N : Nat) : LoopsOk Try.prog (spec_l01Same.cfg N) (fnBody Try.f57) := loopsL (l := [nthLoop (fnBody Try.f57) 0]) (by kernel_rfl) ⟨loopOne (L0 := loopCon N spec_l01Same.sk4 spec_l01Same.xs4 (fun {R} => spec_l01Same.l4 (R := R) N)) (id := 4) (by kernel_rfl) (by kernel_rfl) (spec_l01Same.o4 N), trivial⟩
theorem spec_l01Same.q4 {R R' : Type} {N n : Nat} {d} {k} {g : R → Option R'} : bindF (loopP (spec_l01Same.l4 N) n d k) g = loopP (spec_l01Same.l4 N) n d fun e => bindF (k e) g := bindF_loopP (fun d kn kx => by simp only [spec_l01Same.l4, bindF_ifB, bindF_bindO, bindF_pure, bindF_none, bindF_onSum]) n d k
theorem spec_l01Same.b (N : Nat) (x0 : den (.sl 2 (.int .i64))) (x1 : den (.sl 2 (.int .i64))) : body (spec_l01Same.cfg N) N Try.f57 [.one, .one] [.v, .v] [(false, .imm)] [⟨(.sl 2 (.int .i64)), .imm, x0⟩, ⟨(.sl 2 (.int .i64)), .imm, x1⟩] (fun r i => some (r, i)) = bindO (spec_l01Same N x0 x1) fun r => some ([⟨.bool, .imm, r⟩], []) := by
  show _ = bindF _ _
  conv => rhs; simp only [spec_l01Same, bindF_ifB, bindF_bindO, bindF_pure, bindF_none, bindF_onSum, spec_l01Same.q4]
  kernel_rfl
theorem spec_l01Same.ok (N : Nat) : ConOk Try.prog 57 [.one, .one] (spec_l01Same.con N) := by
  refine conOk_mk (g := spec_l01Same.cfg N) (N := N) (res := [(false, .imm)]) tys_ok (spec_l01Same.cons N) mixed Try.func57 (spec_l01Same.ls N) rfl rfl ?_
  intro ds R k y h
  cases ds with
  | nil => exact none_some h
  | cons d0 ds =>
  cases ds with
  | nil => exact none_some h
  | cons d1 ds =>
  cases ds with
  | cons _ _ => exact none_some h
  | nil =>
  have h0 : (castDm (.sl 2 (.int .i64)) .imm d0 fun x0 => castDm (.sl 2 (.int .i64)) .imm d1 fun x1 => bindO (spec_l01Same N x0 x1) fun r => k [⟨.bool, .imm, r⟩] []) = some y := h
  clear h
  obtain ⟨x0, rfl, h1⟩ := castDm_eq h0
  obtain ⟨x1, rfl, h2⟩ := castDm_eq h1
  exact con_fin (spec_l01Same.b N x0 x1) h2
noncomputable def spec_l06Begins.con (N : Nat) : Con := { modes := [.v, .v], ptrs := [false], fn := fun ds k => match ds with | [d0, d1] => castDm (.sl 2 (.int .i64)) .imm d0 fun x0 => castDm (.sl 2 (.int .i64)) .imm d1 fun x1 => bindO (spec_l06Begins N x0 x1) fun r => k [⟨.bool, .imm, r⟩] [] | _ => none }
noncomputable def spec_l06Begins.cfg (N : Nat) : Cfg := { ty := tys, keep := [16], flt := [], elm := [(24, (.own (.own .imm))), (29, (.own .imm)), (30, (.pr (.own .imm) .imm)), (31, (.pr (.own .imm) .imm)), (34, (.pr (.own .imm) .imm)), (45, (.own .imm)), (59, (.own .imm))], live := [], ord := [], con := [((57, [.one, .one]), spec_l01Same.con N)], loops := [], joins := [] }
theorem spec_l06Begins.cons (N : Nat) : ConsOk Try.prog (spec_l06Begins.cfg N).con := (consOk_cons (hb57) (spec_l01Same.ok N) consOk_nil)
theorem spec_l06Begins.ls (N : Nat) : LoopsOk Try.prog (spec_l06Begins.cfg N) (fnBody Try.f45) := loopsL (l := []) (by kernel_rfl) trivial
theorem spec_l06Begins.b (N : Nat) (x0 : den (.sl 2 (.int .i64))) (x1 : den (.sl 2 (.int .i64))) : body (spec_l06Begins.cfg N) N Try.f45 [.one, .one] [.v, .v] [(false, .imm)] [⟨(.sl 2 (.int .i64)), .imm, x0⟩, ⟨(.sl 2 (.int .i64)), .imm, x1⟩] (fun r i => some (r, i)) = bindO (spec_l06Begins N x0 x1) fun r => some ([⟨.bool, .imm, r⟩], []) := by
  show _ = bindF _ _
  conv => rhs; simp only [spec_l06Begins, bindF_ifB, bindF_bindO, bindF_pure, bindF_none, bindF_onSum]
  kernel_rfl
theorem spec_l06Begins.ok (N : Nat) : ConOk Try.prog 45 [.one, .one] (spec_l06Begins.con N) := by
  refine conOk_mk (g := spec_l06Begins.cfg N) (N := N) (res := [(false, .imm)]) tys_ok (spec_l06Begins.cons N) mixed Try.func45 (spec_l06Begins.ls N) rfl rfl ?_
  intro ds R k y h
  cases ds with
  | nil => exact none_some h
  | cons d0 ds =>
  cases ds with
  | nil => exact none_some h
  | cons d1 ds =>
  cases ds with
  | cons _ _ => exact none_some h
  | nil =>
  have h0 : (castDm (.sl 2 (.int .i64)) .imm d0 fun x0 => castDm (.sl 2 (.int .i64)) .imm d1 fun x1 => bindO (spec_l06Begins N x0 x1) fun r => k [⟨.bool, .imm, r⟩] []) = some y := h
  clear h
  obtain ⟨x0, rfl, h1⟩ := castDm_eq h0
  obtain ⟨x1, rfl, h2⟩ := castDm_eq h1
  exact con_fin (spec_l06Begins.b N x0 x1) h2
def spec_CompMatch.sk5 : Skel := ⟨[.pv (.sl 29 (.sl 2 (.int .i64))), .pv (.sl 2 (.int .i64)), .dead, .dead, .dead, .ov 50 [], .pv (.int .i64), .dead, .dead, .dead, .dead, .dead, .dead, .dead, .dead, .dead, .dead, .dead, .dead, .dead, .dead, .dead, .dead, .dead, .dead, .dead, .dead, .dead, .dead, .dead, .dead, .dead, .dead, .dead, .dead, .dead, .dead, .dead, .dead, .dead, .dead, .dead, .dead, .dead], [⟨50, (.sl 2 (.int .i64)), (.own .imm), false, false⟩]⟩
def spec_CompMatch.xs5 : List XS := [⟨.exit 0, [5], ⟨[.dead, .dead, .dead, .dead, .dead, .ov 50 [], .dead, .dead, .dead, .dead, .dead, .dead, .dead, .dead, .dead, .dead, .dead, .dead, .dead, .dead, .dead, .dead, .dead, .dead, .dead, .dead, .dead, .dead, .dead, .dead, .dead, .dead, .dead, .dead, .dead, .dead, .dead, .dead, .dead, .dead, .dead, .dead, .dead, .dead], [⟨50, (.sl 2 (.int .i64)), (.own .imm), false, false⟩]⟩⟩]
noncomputable def spec_CompMatch.con (N : Nat) : Con := { modes := [.v, .v], ptrs := [false], fn := fun ds k => match ds with | [d0, d1] => castDm (.sl 29 (.sl 2 (.int .i64))) .imm d0 fun x0 => castDm (.sl 2 (.int .i64)) .imm d1 fun x1 => bindO (spec_CompMatch N x0 x1) fun r => k [⟨(.sl 2 (.int .i64)), (.own .imm), r⟩] [] | _ => none }
noncomputable def spec_CompMatch.cfg (N : Nat) : Cfg := { ty := tys, keep := [18, 23, 38], flt := [], elm := [(24, (.own (.own .imm))), (29, (.own .imm)), (30, (.pr (.own .imm) .imm)), (31, (.pr (.own .imm) .imm)), (34, (.pr (.own .imm) .imm)), (45, (.own .imm)), (59, (.own .imm))], live := [(5, [0, 1, 5, 6])], ord := [], con := [((10, [.one]), spec_CandsRight.con N), ((44, [.one]), spec_PointsRight.con N), ((45, [.one, .one]), spec_l06Begins.con N)], loops := [(5, loopCon N spec_CompMatch.sk5 spec_CompMatch.xs5 (fun {R} => spec_CompMatch.l5 (R := R) N))], joins := [(6, [⟨.normal, [0, 1, 5, 6], ⟨[.pv (.sl 29 (.sl 2 (.int .i64))), .pv (.sl 2 (.int .i64)), .dead, .dead, .dead, .ov 50 [], .pv (.int .i64), .dead, .dead, .dead, .dead, .dead, .dead, .dead, .dead, .dead, .dead, .dead, .dead, .dead, .dead, .dead, .dead, .dead, .dead, .dead, .dead, .dead, .dead, .dead, .dead, .dead, .dead, .dead, .dead, .dead, .dead, .dead, .dead, .dead, .dead, .dead, .dead, .dead], [⟨50, (.sl 2 (.int .i64)), (.own .imm), false, false⟩]⟩⟩])] }
theorem spec_CompMatch.cons (N : Nat) : ConsOk Try.prog (spec_CompMatch.cfg N).con := (consOk_cons (hb10) (spec_CandsRight.ok N) (consOk_cons (hb44) (spec_PointsRight.ok N) (consOk_cons (hb45) (spec_l06Begins.ok N) consOk_nil)))
theorem spec_CompMatch.h5 {R : Type} (N : Nat) (d : spec_CompMatch.sk5.D) (kn : spec_CompMatch.sk5.D → Option R) (kx : XD spec_CompMatch.xs5 → Option R) : roundK (spec_CompMatch.cfg N) N (nthLoop (fnBody Try.f23) 0) spec_CompMatch.sk5 spec_CompMatch.xs5 d kn kx = spec_CompMatch.l5 N d kn kx := by kernel_rfl
theorem spec_CompMatch.i5 (N : Nat) : LoopsOk Try.prog (spec_CompMatch.cfg N) (nthLoop (fnBody Try.f23) 0) := loopsL (l := []) (by kernel_rfl) trivial
theorem spec_CompMatch.o5 (N : Nat) : LoopOk Try.prog (nthLoop (fnBody Try.f23) 0) (loopCon N spec_CompMatch.sk5 spec_CompMatch.xs5 (fun {R} => spec_CompMatch.l5 (R := R) N)) := loop_ok (g := spec_CompMatch.cfg N) tys_ok (spec_CompMatch.cons N) mixed (spec_CompMatch.i5 N) (fun d kn kx => spec_CompMatch.h5 N d kn kx)
theorem spec_CompMatch.ls (N : Nat) : LoopsOk Try.prog (spec_CompMatch.cfg N) (fnBody Try.f23) := loopsL (l := [nthLoop (fnBody Try.f23) 0]) (by kernel_rfl) ⟨loopOne (L0 := loopCon N spec_CompMatch.sk5 spec_CompMatch.xs5 (fun {R} => spec_CompMatch.l5 (R := R) N)) (id := 5) (by kernel_rfl) (by kernel_rfl) (spec_CompMatch.o5 N), trivial⟩
theorem spec_CompMatch.q5 {R R' : Type} {N n : Nat} {d} {k} {g : R → Option R'} : bindF (loopP (spec_CompMatch.l5 N) n d k) g = loopP (spec_CompMatch.l5 N) n d fun e => bindF (k e) g := bindF_loopP (fun d kn kx => by simp only [spec_CompMatch.l5, bindF_ifB, bindF_bindO, bindF_pure, bindF_none, bindF_onSum]) n d k
theorem spec_CompMatch.b (N : Nat) (x0 : den (.sl 29 (.sl 2 (.int .i64)))) (x1 : den (.sl 2 (.int .i64))) : body (spec_CompMatch.cfg N) N Try.f23 [.one, .one] [.v, .v] [(false, (.own .imm))] [⟨(.sl 29 (.sl 2 (.int .i64))), .imm, x0⟩, ⟨(.sl 2 (.int .i64)), .imm, x1⟩] (fun r i => some (r, i)) = bindO (spec_CompMatch N x0 x1) fun r => some ([⟨(.sl 2 (.int .i64)), (.own .imm), r⟩], []) := by
  show _ = bindF _ _
  conv => rhs; simp only [spec_CompMatch, bindF_ifB, bindF_bindO, bindF_pure, bindF_none, bindF_onSum, spec_CompMatch.q5]
  kernel_rfl
theorem spec_CompMatch.ok (N : Nat) : ConOk Try.prog 23 [.one, .one] (spec_CompMatch.con N) := by
  refine conOk_mk (g := spec_CompMatch.cfg N) (N := N) (res := [(false, (.own .imm))]) tys_ok (spec_CompMatch.cons N) mixed Try.func23 (spec_CompMatch.ls N) rfl rfl ?_
  intro ds R k y h
  cases ds with
  | nil => exact none_some h
  | cons d0 ds =>
  cases ds with
  | nil => exact none_some h
  | cons d1 ds =>
  cases ds with
  | cons _ _ => exact none_some h
  | nil =>
  have h0 : (castDm (.sl 29 (.sl 2 (.int .i64))) .imm d0 fun x0 => castDm (.sl 2 (.int .i64)) .imm d1 fun x1 => bindO (spec_CompMatch N x0 x1) fun r => k [⟨(.sl 2 (.int .i64)), (.own .imm), r⟩] []) = some y := h
  clear h
  obtain ⟨x0, rfl, h1⟩ := castDm_eq h0
  obtain ⟨x1, rfl, h2⟩ := castDm_eq h1
  exact con_fin (spec_CompMatch.b N x0 x1) h2
noncomputable def impl_isMany.con (N : Nat) : Con := { modes := [.v], ptrs := [false], fn := fun ds k => match ds with | [d0] => castDm (.int .i64) .imm d0 fun x0 => bindO (impl_isMany N x0) fun r => k [⟨.bool, .imm, r⟩] [] | _ => none }
noncomputable def impl_isMany.cfg (N : Nat) : Cfg := { ty := tys, keep := [], flt := [], elm := [(24, (.own (.own .imm))), (29, (.own .imm)), (30, (.pr (.own .imm) .imm)), (31, (.pr (.own .imm) .imm)), (34, (.pr (.own .imm) .imm)), (45, (.own .imm)), (59, (.own .imm))], live := [], ord := [], con := [], loops := [], joins := [] }
theorem impl_isMany.cons (N : Nat) : ConsOk Try.prog (impl_isMany.cfg N).con := consOk_nil
theorem impl_isMany.ls (N : Nat) : LoopsOk Try.prog (impl_isMany.cfg N) (fnBody Try.f58) := loopsL (l := []) (by kernel_rfl) trivial
theorem impl_isMany.b (N : Nat) (x0 : den (.int .i64)) : body (impl_isMany.cfg N) N Try.f58 [.one] [.v] [(false, .imm)] [⟨(.int .i64), .imm, x0⟩] (fun r i => some (r, i)) = bindO (impl_isMany N x0) fun r => some ([⟨.bool, .imm, r⟩], []) := by
  show _ = bindF _ _
  conv => rhs; simp only [impl_isMany, bindF_ifB, bindF_bindO, bindF_pure, bindF_none, bindF_onSum]
  kernel_rfl
theorem impl_isMany.ok (N : Nat) : ConOk Try.prog 58 [.one] (impl_isMany.con N) := by
  refine conOk_mk (g := impl_isMany.cfg N) (N := N) (res := [(false, .imm)]) tys_ok (impl_isMany.cons N) mixed Try.func58 (impl_isMany.ls N) rfl rfl ?_
  intro ds R k y h
  cases ds with
  | nil => exact none_some h
  | cons d0 ds =>
  cases ds with
  | cons _ _ => exact none_some h
  | nil =>
  have h0 : (castDm (.int .i64) .imm d0 fun x0 => bindO (impl_isMany N x0) fun r => k [⟨.bool, .imm, r⟩] []) = some y := h
  clear h
  obtain ⟨x0, rfl, h1⟩ := castDm_eq h0
  exact con_fin (impl_isMany.b N x0) h1
end Go.AE.F
