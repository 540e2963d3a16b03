/- The printed functions are what the program comes to: contracts. -/
import Derived.Test.YtdjhkphgnhbnjaaF1
import Derived.Test.YtdjhkphgnhbnjaaXCandsRightT
namespace Go.AE.F
open Go.AE Go.Proofs
set_option maxRecDepth 100000
def laws_szInt64S.con (N : Nat) : Con := { modes := [.v, .v], ptrs := [false], fn := fun ds k => match ds with | [d0, d1] => castDm (.sl 2 (.int .i64)) .imm d0 fun x0 => castDm (.int .i64) .imm d1 fun x1 => bindO (laws_szInt64S N x0 x1) fun r => k [⟨(.int .i64), .imm, r⟩] [] | _ => none }
def laws_szInt64S.cfg (N : Nat) : Cfg := { ty := tys, keep := [], flt := [], elm := [], live := [], ord := [], con := [], loops := [], joins := [] }
theorem laws_szInt64S.cons (N : Nat) : ConsOk Try.prog (laws_szInt64S.cfg N).con := consOk_nil
theorem laws_szInt64S.ls (N : Nat) : LoopsOk Try.prog (laws_szInt64S.cfg N) (fnBody Try.f29) := loopsL (l := []) (by kernel_rfl) trivial
theorem laws_szInt64S.b (N : Nat) (x0 : den (.sl 2 (.int .i64))) (x1 : den (.int .i64)) : body (laws_szInt64S.cfg N) N Try.f29 [.one, .one] [.v, .v] [(false, .imm)] [⟨(.sl 2 (.int .i64)), .imm, x0⟩, ⟨(.int .i64), .imm, x1⟩] (fun r i => some (r, i)) = bindO (laws_szInt64S N x0 x1) fun r => some ([⟨(.int .i64), .imm, r⟩], []) := by
  show _ = bindF _ _
  conv => rhs; simp only [laws_szInt64S, bindF_ifB, bindF_bindO, bindF_pure, bindF_none, bindF_onSum]
  kernel_rfl
theorem laws_szInt64S.ok (N : Nat) : ConOk Try.prog 29 [.one, .one] (laws_szInt64S.con N) := by
  refine conOk_mk (g := laws_szInt64S.cfg N) (N := N) (res := [(false, .imm)]) tys_ok (laws_szInt64S.cons N) mixed Try.func29 (laws_szInt64S.ls N) rfl rfl ?_
  intro ds R k y h
  cases ds with
  | nil => exact none_some h
  | cons d0 ds =>
  cases ds with
  | nil => exact none_some h
  | cons d1 ds =>
  cases ds with
  | cons _ _ => exact none_some h
  | nil =>
  have h0 : (castDm (.sl 2 (.int .i64)) .imm d0 fun x0 => castDm (.int .i64) .imm d1 fun x1 => bindO (laws_szInt64S N x0 x1) fun r => k [⟨(.int .i64), .imm, r⟩] []) = some y := h
  clear h
  obtain ⟨x0, rfl, h1⟩ := castDm_eq h0
  obtain ⟨x1, rfl, h2⟩ := castDm_eq h1
  exact con_fin (laws_szInt64S.b N x0 x1) h2
def laws_szInt64SS.sk5 : Skel := ⟨[.pv (.sl 29 (.sl 2 (.int .i64))), .pv (.int .i64), .dead, .dead, .dead, .pv (.int .i64), .dead, .dead, .dead, .dead, .dead, .dead, .dead, .dead, .dead, .dead, .dead, .dead, .dead, .dead, .dead, .dead, .dead, .dead, .dead, .dead, .dead], []⟩
def laws_szInt64SS.xs5 : List XS := [⟨.exit 0, [1], ⟨[.dead, .pv (.int .i64), .dead, .dead, .dead, .dead, .dead, .dead, .dead, .dead, .dead, .dead, .dead, .dead, .dead, .dead, .dead, .dead, .dead, .dead, .dead, .dead, .dead, .dead, .dead, .dead, .dead], []⟩⟩, ⟨.ret, [4], ⟨[.dead, .dead, .dead, .dead, .pv (.int .i64), .dead, .dead, .dead, .dead, .dead, .dead, .dead, .dead, .dead, .dead, .dead, .dead, .dead, .dead, .dead, .dead, .dead, .dead, .dead, .dead, .dead, .dead], []⟩⟩]
def laws_szInt64SS.con (N : Nat) : Con := { modes := [.v, .v], ptrs := [false], fn := fun ds k => match ds with | [d0, d1] => castDm (.sl 29 (.sl 2 (.int .i64))) .imm d0 fun x0 => castDm (.int .i64) .imm d1 fun x1 => bindO (laws_szInt64SS N x0 x1) fun r => k [⟨(.int .i64), .imm, r⟩] [] | _ => none }
def laws_szInt64SS.cfg (N : Nat) : Cfg := { ty := tys, keep := [23], flt := [], elm := [], live := [(5, [0, 1, 5])], ord := [], con := [((29, [.one, .one]), laws_szInt64S.con N)], loops := [(5, loopCon N laws_szInt64SS.sk5 laws_szInt64SS.xs5 (fun {R} => laws_szInt64SS.l5 (R := R) N))], joins := [] }
theorem laws_szInt64SS.cons (N : Nat) : ConsOk Try.prog (laws_szInt64SS.cfg N).con := (consOk_cons (hb29) (laws_szInt64S.ok N) consOk_nil)
theorem laws_szInt64SS.h5 {R : Type} (N : Nat) (d : laws_szInt64SS.sk5.D) (kn : laws_szInt64SS.sk5.D → Option R) (kx : XD laws_szInt64SS.xs5 → Option R) : roundK (laws_szInt64SS.cfg N) N (nthLoop (fnBody Try.f9) 0) laws_szInt64SS.sk5 laws_szInt64SS.xs5 d kn kx = laws_szInt64SS.l5 N d kn kx := by kernel_rfl
theorem laws_szInt64SS.i5 (N : Nat) : LoopsOk Try.prog (laws_szInt64SS.cfg N) (nthLoop (fnBody Try.f9) 0) := loopsL (l := []) (by kernel_rfl) trivial
theorem laws_szInt64SS.o5 (N : Nat) : LoopOk Try.prog (nthLoop (fnBody Try.f9) 0) (loopCon N laws_szInt64SS.sk5 laws_szInt64SS.xs5 (fun {R} => laws_szInt64SS.l5 (R := R) N)) := loop_ok (g := laws_szInt64SS.cfg N) tys_ok (laws_szInt64SS.cons N) mixed (laws_szInt64SS.i5 N) (fun d kn kx => laws_szInt64SS.h5 N d kn kx)
theorem laws_szInt64SS.ls (N : Nat) : LoopsOk Try.prog (laws_szInt64SS.cfg N) (fnBody Try.f9) := loopsL (l := [nthLoop (fnBody Try.f9) 0]) (by kernel_rfl) ⟨loopOne (L0 := loopCon N laws_szInt64SS.sk5 laws_szInt64SS.xs5 (fun {R} => laws_szInt64SS.l5 (R := R) N)) (id := 5) (by kernel_rfl) (by kernel_rfl) (laws_szInt64SS.o5 N), trivial⟩
theorem laws_szInt64SS.q5 {R R' : Type} {N n : Nat} {d} {k} {g : R → Option R'} : bindF (loopP (laws_szInt64SS.l5 N) n d k) g = loopP (laws_szInt64SS.l5 N) n d fun e => bindF (k e) g := bindF_loopP (fun d kn kx => by simp only [laws_szInt64SS.l5, bindF_ifB, bindF_bindO, bindF_pure, bindF_none, bindF_onSum]) n d k
theorem laws_szInt64SS.b (N : Nat) (x0 : den (.sl 29 (.sl 2 (.int .i64)))) (x1 : den (.int .i64)) : body (laws_szInt64SS.cfg N) N Try.f9 [.one, .one] [.v, .v] [(false, .imm)] [⟨(.sl 29 (.sl 2 (.int .i64))), .imm, x0⟩, ⟨(.int .i64), .imm, x1⟩] (fun r i => some (r, i)) = bindO (laws_szInt64SS N x0 x1) fun r => some ([⟨(.int .i64), .imm, r⟩], []) := by
  show _ = bindF _ _
  conv => rhs; simp only [laws_szInt64SS, bindF_ifB, bindF_bindO, bindF_pure, bindF_none, bindF_onSum, laws_szInt64SS.q5]
  kernel_rfl
theorem laws_szInt64SS.ok (N : Nat) : ConOk Try.prog 9 [.one, .one] (laws_szInt64SS.con N) := by
  refine conOk_mk (g := laws_szInt64SS.cfg N) (N := N) (res := [(false, .imm)]) tys_ok (laws_szInt64SS.cons N) mixed Try.func9 (laws_szInt64SS.ls N) rfl rfl ?_
  intro ds R k y h
  cases ds with
  | nil => exact none_some h
  | cons d0 ds =>
  cases ds with
  | nil => exact none_some h
  | cons d1 ds =>
  cases ds with
  | cons _ _ => exact none_some h
  | nil =>
  have h0 : (castDm (.sl 29 (.sl 2 (.int .i64))) .imm d0 fun x0 => castDm (.int .i64) .imm d1 fun x1 => bindO (laws_szInt64SS N x0 x1) fun r => k [⟨(.int .i64), .imm, r⟩] []) = some y := h
  clear h
  obtain ⟨x0, rfl, h1⟩ := castDm_eq h0
  obtain ⟨x1, rfl, h2⟩ := castDm_eq h1
  exact con_fin (laws_szInt64SS.b N x0 x1) h2
def laws_toInt64S.sk3 : Skel := ⟨[.pv (.sl 2 (.int .i64)), .dead, .dead, .ov 50 [], .pv (.int .i64), .dead, .dead, .dead, .dead, .dead, .dead, .dead, .dead, .dead, .dead, .dead, .dead, .dead, .dead, .dead, .dead, .dead], [⟨50, (.sl 2 (.int .i64)), (.own .imm), false, false⟩]⟩
def laws_toInt64S.xs3 : List XS := [⟨.exit 0, [3], ⟨[.dead, .dead, .dead, .ov 50 [], .dead, .dead, .dead, .dead, .dead, .dead, .dead, .dead, .dead, .dead, .dead, .dead, .dead, .dead, .dead, .dead, .dead, .dead], [⟨50, (.sl 2 (.int .i64)), (.own .imm), false, false⟩]⟩⟩]
def laws_toInt64S.con (N : Nat) : Con := { modes := [.v], ptrs := [false], fn := fun ds k => match ds with | [d0] => castDm (.sl 2 (.int .i64)) .imm d0 fun x0 => bindO (laws_toInt64S N x0) fun r => k [⟨(.sl 2 (.int .i64)), (.own .imm), r⟩] [] | _ => none }
def laws_toInt64S.cfg (N : Nat) : Cfg := { ty := tys, keep := [], flt := [], elm := [], live := [(3, [0, 3, 4])], ord := [], con := [], loops := [(3, loopCon N laws_toInt64S.sk3 laws_toInt64S.xs3 (fun {R} => laws_toInt64S.l3 (R := R) N))], joins := [] }
theorem laws_toInt64S.cons (N : Nat) : ConsOk Try.prog (laws_toInt64S.cfg N).con := consOk_nil
theorem laws_toInt64S.h3 {R : Type} (N : Nat) (d : laws_toInt64S.sk3.D) (kn : laws_toInt64S.sk3.D → Option R) (kx : XD laws_toInt64S.xs3 → Option R) : roundK (laws_toInt64S.cfg N) N (nthLoop (fnBody Try.f24) 0) laws_toInt64S.sk3 laws_toInt64S.xs3 d kn kx = laws_toInt64S.l3 N d kn kx := by kernel_rfl
theorem laws_toInt64S.i3 (N : Nat) : LoopsOk Try.prog (laws_toInt64S.cfg N) (nthLoop (fnBody Try.f24) 0) := loopsL (l := []) (by kernel_rfl) trivial
theorem laws_toInt64S.o3 (N : Nat) : LoopOk Try.prog (nthLoop (fnBody Try.f24) 0) (loopCon N laws_toInt64S.sk3 laws_toInt64S.xs3 (fun {R} => laws_toInt64S.l3 (R := R) N)) := loop_ok (g := laws_toInt64S.cfg N) tys_ok (laws_toInt64S.cons N) mixed (laws_toInt64S.i3 N) (fun d kn kx => laws_toInt64S.h3 N d kn kx)
theorem laws_toInt64S.ls (N : Nat) : LoopsOk Try.prog (laws_toInt64S.cfg N) (fnBody Try.f24) := loopsL (l := [nthLoop (fnBody Try.f24) 0]) (by kernel_rfl) ⟨loopOne (L0 := loopCon N laws_toInt64S.sk3 laws_toInt64S.xs3 (fun {R} => laws_toInt64S.l3 (R := R) N)) (id := 3) (by kernel_rfl) (by kernel_rfl) (laws_toInt64S.o3 N), trivial⟩
theorem laws_toInt64S.q3 {R R' : Type} {N n : Nat} {d} {k} {g : R → Option R'} : bindF (loopP (laws_toInt64S.l3 N) n d k) g = loopP (laws_toInt64S.l3 N) n d fun e => bindF (k e) g := bindF_loopP (fun d kn kx => by simp only [laws_toInt64S.l3, bindF_ifB, bindF_bindO, bindF_pure, bindF_none, bindF_onSum]) n d k
theorem laws_toInt64S.b (N : Nat) (x0 : den (.sl 2 (.int .i64))) : body (laws_toInt64S.cfg N) N Try.f24 [.one] [.v] [(false, (.own .imm))] [⟨(.sl 2 (.int .i64)), .imm, x0⟩] (fun r i => some (r, i)) = bindO (laws_toInt64S N x0) fun r => some ([⟨(.sl 2 (.int .i64)), (.own .imm), r⟩], []) := by
  show _ = bindF _ _
  conv => rhs; simp only [laws_toInt64S, bindF_ifB, bindF_bindO, bindF_pure, bindF_none, bindF_onSum, laws_toInt64S.q3]
  kernel_rfl
theorem laws_toInt64S.ok (N : Nat) : ConOk Try.prog 24 [.one] (laws_toInt64S.con N) := by
  refine conOk_mk (g := laws_toInt64S.cfg N) (N := N) (res := [(false, (.own .imm))]) tys_ok (laws_toInt64S.cons N) mixed Try.func24 (laws_toInt64S.ls N) rfl rfl ?_
  intro ds R k y h
  cases ds with
  | nil => exact none_some h
  | cons d0 ds =>
  cases ds with
  | cons _ _ => exact none_some h
  | nil =>
  have h0 : (castDm (.sl 2 (.int .i64)) .imm d0 fun x0 => bindO (laws_toInt64S N x0) fun r => k [⟨(.sl 2 (.int .i64)), (.own .imm), r⟩] []) = some y := h
  clear h
  obtain ⟨x0, rfl, h1⟩ := castDm_eq h0
  exact con_fin (laws_toInt64S.b N x0) h1
def laws_toInt64SS.sk3 : Skel := ⟨[.pv (.sl 29 (.sl 2 (.int .i64))), .dead, .dead, .ov 50 [], .pv (.int .i64), .dead, .dead, .dead, .dead, .dead, .dead, .dead, .dead, .dead, .dead, .dead, .dead, .dead, .dead, .dead, .dead, .dead, .dead], [⟨50, (.sl 29 (.sl 2 (.int .i64))), (.own .imm), false, false⟩]⟩
def laws_toInt64SS.xs3 : List XS := [⟨.exit 0, [3], ⟨[.dead, .dead, .dead, .ov 50 [], .dead, .dead, .dead, .dead, .dead, .dead, .dead, .dead, .dead, .dead, .dead, .dead, .dead, .dead, .dead, .dead, .dead, .dead, .dead], [⟨50, (.sl 29 (.sl 2 (.int .i64))), (.own .imm), false, false⟩]⟩⟩]
def laws_toInt64SS.con (N : Nat) : Con := { modes := [.v], ptrs := [false], fn := fun ds k => match ds with | [d0] => castDm (.sl 29 (.sl 2 (.int .i64))) .imm d0 fun x0 => bindO (laws_toInt64SS N x0) fun r => k [⟨(.sl 29 (.sl 2 (.int .i64))), (.own .imm), r⟩] [] | _ => none }
def laws_toInt64SS.cfg (N : Nat) : Cfg := { ty := tys, keep := [20], flt := [], elm := [], live := [(3, [0, 3, 4])], ord := [], con := [((24, [.one]), laws_toInt64S.con N)], loops := [(3, loopCon N laws_toInt64SS.sk3 laws_toInt64SS.xs3 (fun {R} => laws_toInt64SS.l3 (R := R) N))], joins := [] }
theorem laws_toInt64SS.cons (N : Nat) : ConsOk Try.prog (laws_toInt64SS.cfg N).con := (consOk_cons (hb24) (laws_toInt64S.ok N) consOk_nil)
theorem laws_toInt64SS.h3 {R : Type} (N : Nat) (d : laws_toInt64SS.sk3.D) (kn : laws_toInt64SS.sk3.D → Option R) (kx : XD laws_toInt64SS.xs3 → Option R) : roundK (laws_toInt64SS.cfg N) N (nthLoop (fnBody Try.f11) 0) laws_toInt64SS.sk3 laws_toInt64SS.xs3 d kn kx = laws_toInt64SS.l3 N d kn kx := by kernel_rfl
theorem laws_toInt64SS.i3 (N : Nat) : LoopsOk Try.prog (laws_toInt64SS.cfg N) (nthLoop (fnBody Try.f11) 0) := loopsL (l := []) (by kernel_rfl) trivial
theorem laws_toInt64SS.o3 (N : Nat) : LoopOk Try.prog (nthLoop (fnBody Try.f11) 0) (loopCon N laws_toInt64SS.sk3 laws_toInt64SS.xs3 (fun {R} => laws_toInt64SS.l3 (R := R) N)) := loop_ok (g := laws_toInt64SS.cfg N) tys_ok (laws_toInt64SS.cons N) mixed (laws_toInt64SS.i3 N) (fun d kn kx => laws_toInt64SS.h3 N d kn kx)
theorem laws_toInt64SS.ls (N : Nat) : LoopsOk Try.prog (laws_toInt64SS.cfg N) (fnBody Try.f11) := loopsL (l := [nthLoop (fnBody Try.f11) 0]) (by kernel_rfl) ⟨loopOne (L0 := loopCon N laws_toInt64SS.sk3 laws_toInt64SS.xs3 (fun {R} => laws_toInt64SS.l3 (R := R) N)) (id := 3) (by kernel_rfl) (by kernel_rfl) (laws_toInt64SS.o3 N), trivial⟩
theorem laws_toInt64SS.q3 {R R' : Type} {N n : Nat} {d} {k} {g : R → Option R'} : bindF (loopP (laws_toInt64SS.l3 N) n d k) g = loopP (laws_toInt64SS.l3 N) n d fun e => bindF (k e) g := bindF_loopP (fun d kn kx => by simp only [laws_toInt64SS.l3, bindF_ifB, bindF_bindO, bindF_pure, bindF_none, bindF_onSum]) n d k
theorem laws_toInt64SS.b (N : Nat) (x0 : den (.sl 29 (.sl 2 (.int .i64)))) : body (laws_toInt64SS.cfg N) N Try.f11 [.one] [.v] [(false, (.own .imm))] [⟨(.sl 29 (.sl 2 (.int .i64))), .imm, x0⟩] (fun r i => some (r, i)) = bindO (laws_toInt64SS N x0) fun r => some ([⟨(.sl 29 (.sl 2 (.int .i64))), (.own .imm), r⟩], []) := by
  show _ = bindF _ _
  conv => rhs; simp only [laws_toInt64SS, bindF_ifB, bindF_bindO, bindF_pure, bindF_none, bindF_onSum, laws_toInt64SS.q3]
  kernel_rfl
theorem laws_toInt64SS.ok (N : Nat) : ConOk Try.prog 11 [.one] (laws_toInt64SS.con N) := by
  refine conOk_mk (g := laws_toInt64SS.cfg N) (N := N) (res := [(false, (.own .imm))]) tys_ok (laws_toInt64SS.cons N) mixed Try.func11 (laws_toInt64SS.ls N) rfl rfl ?_
  intro ds R k y h
  cases ds with
  | nil => exact none_some h
  | cons d0 ds =>
  cases ds with
  | cons _ _ => exact none_some h
  | nil =>
  have h0 : (castDm (.sl 29 (.sl 2 (.int .i64))) .imm d0 fun x0 => bindO (laws_toInt64SS N x0) fun r => k [⟨(.sl 29 (.sl 2 (.int .i64))), (.own .imm), r⟩] []) = some y := h
  clear h
  obtain ⟨x0, rfl, h1⟩ := castDm_eq h0
  exact con_fin (laws_toInt64SS.b N x0) h1
def spec_l01Point.con (N : Nat) : Con := { modes := [.v], ptrs := [false], fn := fun ds k => match ds with | [d0] => castDm (.int .i64) .imm d0 fun x0 => bindO (spec_l01Point N x0) fun r => k [⟨.bool, .imm, r⟩] [] | _ => none }
def spec_l01Point.cfg (N : Nat) : Cfg := { ty := tys, keep := [], flt := [], elm := [], live := [], ord := [], con := [], loops := [], joins := [] }
theorem spec_l01Point.cons (N : Nat) : ConsOk Try.prog (spec_l01Point.cfg N).con := consOk_nil
theorem spec_l01Point.ls (N : Nat) : LoopsOk Try.prog (spec_l01Point.cfg N) (fnBody Try.f50) := loopsL (l := []) (by kernel_rfl) trivial
theorem spec_l01Point.b (N : Nat) (x0 : den (.int .i64)) : body (spec_l01Point.cfg N) N Try.f50 [.one] [.v] [(false, .imm)] [⟨(.int .i64), .imm, x0⟩] (fun r i => some (r, i)) = bindO (spec_l01Point N x0) fun r => some ([⟨.bool, .imm, r⟩], []) := by
  show _ = bindF _ _
  conv => rhs; simp only [spec_l01Point, bindF_ifB, bindF_bindO, bindF_pure, bindF_none, bindF_onSum]
  kernel_rfl
theorem spec_l01Point.ok (N : Nat) : ConOk Try.prog 50 [.one] (spec_l01Point.con N) := by
  refine conOk_mk (g := spec_l01Point.cfg N) (N := N) (res := [(false, .imm)]) tys_ok (spec_l01Point.cons N) mixed Try.func50 (spec_l01Point.ls N) rfl rfl ?_
  intro ds R k y h
  cases ds with
  | nil => exact none_some h
  | cons d0 ds =>
  cases ds with
  | cons _ _ => exact none_some h
  | nil =>
  have h0 : (castDm (.int .i64) .imm d0 fun x0 => bindO (spec_l01Point N x0) fun r => k [⟨.bool, .imm, r⟩] []) = some y := h
  clear h
  obtain ⟨x0, rfl, h1⟩ := castDm_eq h0
  exact con_fin (spec_l01Point.b N x0) h1
def spec_ClassOf.con (N : Nat) : Con := { modes := [.v], ptrs := [false], fn := fun ds k => match ds with | [d0] => castDm (.int .i64) .imm d0 fun x0 => bindO (spec_ClassOf N x0) fun r => k [⟨(.int .i64), .imm, r⟩] [] | _ => none }
def spec_ClassOf.cfg (N : Nat) : Cfg := { ty := tys, keep := [4], flt := [], elm := [], live := [], ord := [], con := [((50, [.one]), spec_l01Point.con N)], loops := [], joins := [] }
theorem spec_ClassOf.cons (N : Nat) : ConsOk Try.prog (spec_ClassOf.cfg N).con := (consOk_cons (hb50) (spec_l01Point.ok N) consOk_nil)
theorem spec_ClassOf.ls (N : Nat) : LoopsOk Try.prog (spec_ClassOf.cfg N) (fnBody Try.f30) := loopsL (l := []) (by kernel_rfl) trivial
theorem spec_ClassOf.b (N : Nat) (x0 : den (.int .i64)) : body (spec_ClassOf.cfg N) N Try.f30 [.one] [.v] [(false, .imm)] [⟨(.int .i64), .imm, x0⟩] (fun r i => some (r, i)) = bindO (spec_ClassOf N x0) fun r => some ([⟨(.int .i64), .imm, r⟩], []) := by
  show _ = bindF _ _
  conv => rhs; simp only [spec_ClassOf, bindF_ifB, bindF_bindO, bindF_pure, bindF_none, bindF_onSum]
  kernel_rfl
theorem spec_ClassOf.ok (N : Nat) : ConOk Try.prog 30 [.one] (spec_ClassOf.con N) := by
  refine conOk_mk (g := spec_ClassOf.cfg N) (N := N) (res := [(false, .imm)]) tys_ok (spec_ClassOf.cons N) mixed Try.func30 (spec_ClassOf.ls N) rfl rfl ?_
  intro ds R k y h
  cases ds with
  | nil => exact none_some h
  | cons d0 ds =>
  cases ds with
  | cons _ _ => exact none_some h
  | nil =>
  have h0 : (castDm (.int .i64) .imm d0 fun x0 => bindO (spec_ClassOf N x0) fun r => k [⟨(.int .i64), .imm, r⟩] []) = some y := h
  clear h
  obtain ⟨x0, rfl, h1⟩ := castDm_eq h0
  exact con_fin (spec_ClassOf.b N x0) h1
def spec_CandsRight.sk4 : Skel := ⟨[.pv (.sl 29 (.sl 2 (.int .i64))), .dead, .dead, .pv (.int .i64), .dead, .dead, .dead, .dead, .dead, .dead, .dead, .dead, .dead, .dead, .dead, .dead, .dead, .dead, .dead, .dead, .dead, .dead, .dead, .dead, .dead, .dead, .dead, .dead, .dead, .dead, .dead, .dead, .dead, .dead, .dead, .dead, .dead, .dead, .dead, .dead, .dead, .dead, .dead, .dead, .dead, .dead], []⟩
def spec_CandsRight.xs4 : List XS := [⟨.exit 0, [], ⟨[.dead, .dead, .dead, .dead, .dead, .dead, .dead, .dead, .dead, .dead, .dead, .dead, .dead, .dead, .dead, .dead, .dead, .dead, .dead, .dead, .dead, .dead, .dead, .dead, .dead, .dead, .dead, .dead, .dead, .dead, .dead, .dead, .dead, .dead, .dead, .dead, .dead, .dead, .dead, .dead, .dead, .dead, .dead, .dead, .dead, .dead], []⟩⟩, ⟨.ret, [2], ⟨[.dead, .dead, .pv .bool, .dead, .dead, .dead, .dead, .dead, .dead, .dead, .dead, .dead, .dead, .dead, .dead, .dead, .dead, .dead, .dead, .dead, .dead, .dead, .dead, .dead, .dead, .dead, .dead, .dead, .dead, .dead, .dead, .dead, .dead, .dead, .dead, .dead, .dead, .dead, .dead, .dead, .dead, .dead, .dead, .dead, .dead, .dead], []⟩⟩]
def spec_CandsRight.sk9 : Skel := ⟨[.pv (.sl 29 (.sl 2 (.int .i64))), .dead, .dead, .pv (.int .i64), .pv (.int .i64), .dead, .dead, .dead, .dead, .dead, .dead, .dead, .dead, .dead, .dead, .dead, .dead, .dead, .dead, .dead, .dead, .dead, .dead, .dead, .dead, .dead, .dead, .dead, .dead, .dead, .dead, .dead, .dead, .dead, .dead, .dead, .dead, .dead, .dead, .dead, .dead, .dead, .dead, .dead, .dead, .dead], []⟩
def spec_CandsRight.xs9 : List XS := [⟨.exit 2, [0, 3, 21, 22, 23, 24, 25, 26], ⟨[.pv (.sl 29 (.sl 2 (.int .i64))), .dead, .dead, .pv (.int .i64), .dead, .dead, .dead, .dead, .dead, .dead, .dead, .dead, .dead, .dead, .dead, .dead, .dead, .dead, .dead, .dead, .dead, .dead, .dead, .dead, .dead, .dead, .dead, .dead, .dead, .dead, .dead, .dead, .dead, .dead, .dead, .dead, .dead, .dead, .dead, .dead, .dead, .dead, .dead, .dead, .dead, .dead], []⟩⟩, ⟨.ret, [2], ⟨[.dead, .dead, .pv .bool, .dead, .dead, .dead, .dead, .dead, .dead, .dead, .dead, .dead, .dead, .dead, .dead, .dead, .dead, .dead, .dead, .dead, .dead, .dead, .dead, .dead, .dead, .dead, .dead, .dead, .dead, .dead, .dead, .dead, .dead, .dead, .dead, .dead, .dead, .dead, .dead, .dead, .dead, .dead, .dead, .dead, .dead, .dead], []⟩⟩]
def spec_CandsRight.con (N : Nat) : Con := { modes := [.v], ptrs := [false], fn := fun ds k => match ds with | [d0] => castDm (.sl 29 (.sl 2 (.int .i64))) .imm d0 fun x0 => bindO (spec_CandsRight N x0) fun r => k [⟨.bool, .imm, r⟩] [] | _ => none }
def spec_CandsRight.cfg (N : Nat) : Cfg := { ty := tys, keep := [44], flt := [], elm := [], live := [(9, [0, 3, 4, 21, 22, 23, 24, 25, 26]), (4, [0, 3, 21, 22, 23, 24, 25, 26])], ord := [], con := [((30, [.one]), spec_ClassOf.con N)], loops := [(4, loopCon N spec_CandsRight.sk4 spec_CandsRight.xs4 (fun {R} => spec_CandsRight.l4 (R := R) N)), (9, loopCon N spec_CandsRight.sk9 spec_CandsRight.xs9 (fun {R} => spec_CandsRight.l9 (R := R) N))], joins := [] }
theorem spec_CandsRight.cons (N : Nat) : ConsOk Try.prog (spec_CandsRight.cfg N).con := (consOk_cons (hb30) (spec_ClassOf.ok N) consOk_nil)
theorem spec_CandsRight.h9 {R : Type} (N : Nat) (d : spec_CandsRight.sk9.D) (kn : spec_CandsRight.sk9.D → Option R) (kx : XD spec_CandsRight.xs9 → Option R) : roundK (spec_CandsRight.cfg N) N (nthLoop (fnBody Try.f10) 1) spec_CandsRight.sk9 spec_CandsRight.xs9 d kn kx = spec_CandsRight.l9 N d kn kx := by kernel_rfl
theorem spec_CandsRight.i9 (N : Nat) : LoopsOk Try.prog (spec_CandsRight.cfg N) (nthLoop (fnBody Try.f10) 1) := loopsL (l := []) (by kernel_rfl) trivial
theorem spec_CandsRight.o9 (N : Nat) : LoopOk Try.prog (nthLoop (fnBody Try.f10) 1) (loopCon N spec_CandsRight.sk9 spec_CandsRight.xs9 (fun {R} => spec_CandsRight.l9 (R := R) N)) := loop_ok (g := spec_CandsRight.cfg N) tys_ok (spec_CandsRight.cons N) mixed (spec_CandsRight.i9 N) (fun d kn kx => spec_CandsRight.h9 N d kn kx)
theorem spec_CandsRight.h4 {R : Type} (N : Nat) (d : spec_CandsRight.sk4.D) (kn : spec_CandsRight.sk4.D → Option R) (kx : XD spec_CandsRight.xs4 → Option R) : roundK (spec_CandsRight.cfg N) N (nthLoop (fnBody Try.f10) 0) spec_CandsRight.sk4 spec_CandsRight.xs4 d kn kx = spec_CandsRight.l4 N d kn kx := by kernel_rfl
theorem spec_CandsRight.i4 (N : Nat) : LoopsOk Try.prog (spec_CandsRight.cfg N) (nthLoop (fnBody Try.f10) 0) := loopsL (l := [nthLoop (fnBody Try.f10) 1]) (by kernel_rfl) ⟨loopOne (L0 := loopCon N spec_CandsRight.sk9 spec_CandsRight.xs9 (fun {R} => spec_CandsRight.l9 (R := R) N)) (id := 9) (by kernel_rfl) (by kernel_rfl) (spec_CandsRight.o9 N), trivial⟩
theorem spec_CandsRight.o4 (N : Nat) : LoopOk Try.prog (nthLoop (fnBody Try.f10) 0) (loopCon N spec_CandsRight.sk4 spec_CandsRight.xs4 (fun {R} => spec_CandsRight.l4 (R := R) N)) := loop_ok (g := spec_CandsRight.cfg N) tys_ok (spec_CandsRight.cons N) mixed (spec_CandsRight.i4 N) (fun d kn kx => spec_CandsRight.h4 N d kn kx)
theorem spec_CandsRight.ls (N : Nat) : LoopsOk Try.prog (spec_CandsRight.cfg N) (fnBody Try.f10) := loopsL (l := [nthLoop (fnBody Try.f10) 0, nthLoop (fnBody Try.f10) 1]) (by kernel_rfl) ⟨loopOne (L0 := loopCon N spec_CandsRight.sk4 spec_CandsRight.xs4 (fun {R} => spec_CandsRight.l4 (R := R) N)) (id := 4) (by kernel_rfl) (by kernel_rfl) (spec_CandsRight.o4 N), ⟨loopOne (L0 := loopCon N spec_CandsRight.sk9 spec_CandsRight.xs9 (fun {R} => spec_CandsRight.l9 (R := R) N)) (id := 9) (by kernel_rfl) (by kernel_rfl) (spec_CandsRight.o9 N), trivial⟩⟩
theorem spec_CandsRight.q9 {R R' : Type} {N n : Nat} {d} {k} {g : R → Option R'} : bindF (loopP (spec_CandsRight.l9 N) n d k) g = loopP (spec_CandsRight.l9 N) n d fun e => bindF (k e) g := bindF_loopP (fun d kn kx => by simp only [spec_CandsRight.l9, bindF_ifB, bindF_bindO, bindF_pure, bindF_none, bindF_onSum]) n d k
theorem spec_CandsRight.q4 {R R' : Type} {N n : Nat} {d} {k} {g : R → Option R'} : bindF (loopP (spec_CandsRight.l4 N) n d k) g = loopP (spec_CandsRight.l4 N) n d fun e => bindF (k e) g := bindF_loopP (fun d kn kx => by simp only [spec_CandsRight.l4, bindF_ifB, bindF_bindO, bindF_pure, bindF_none, bindF_onSum, spec_CandsRight.q9]) n d k
theorem spec_CandsRight.b (N : Nat) (x0 : den (.sl 29 (.sl 2 (.int .i64)))) : body (spec_CandsRight.cfg N) N Try.f10 [.one] [.v] [(false, .imm)] [⟨(.sl 29 (.sl 2 (.int .i64))), .imm, x0⟩] (fun r i => some (r, i)) = bindO (spec_CandsRight N x0) fun r => some ([⟨.bool, .imm, r⟩], []) := by
  show _ = bindF _ _
  conv => rhs; simp only [spec_CandsRight, bindF_ifB, bindF_bindO, bindF_pure, bindF_none, bindF_onSum, spec_CandsRight.q4, spec_CandsRight.q9]
  kernel_rfl
theorem spec_CandsRight.ok (N : Nat) : ConOk Try.prog 10 [.one] (spec_CandsRight.con N) := by
  refine conOk_mk (g := spec_CandsRight.cfg N) (N := N) (res := [(false, .imm)]) tys_ok (spec_CandsRight.cons N) mixed Try.func10 (spec_CandsRight.ls N) rfl rfl ?_
  intro ds R k y h
  cases ds with
  | nil => exact none_some h
  | cons d0 ds =>
  cases ds with
  | cons _ _ => exact none_some h
  | nil =>
  have h0 : (castDm (.sl 29 (.sl 2 (.int .i64))) .imm d0 fun x0 => bindO (spec_CandsRight N x0) fun r => k [⟨.bool, .imm, r⟩] []) = some y := h
  clear h
  obtain ⟨x0, rfl, h1⟩ := castDm_eq h0
  exact con_fin (spec_CandsRight.b N x0) h1
def impl_size_Sint64.con (N : Nat) : Con := { modes := [.v], ptrs := [false], fn := fun ds k => match ds with | [d0] => castDm (.sl 2 (.int .i64)) .imm d0 fun x0 => bindO (impl_size_Sint64 N x0) fun r => k [⟨(.int .i64), .imm, r⟩] [] | _ => none }
def impl_size_Sint64.cfg (N : Nat) : Cfg := { ty := tys, keep := [], flt := [], elm := [], live := [], ord := [], con := [], loops := [], joins := [] }
theorem impl_size_Sint64.cons (N : Nat) : ConsOk Try.prog (impl_size_Sint64.cfg N).con := consOk_nil
theorem impl_size_Sint64.ls (N : Nat) : LoopsOk Try.prog (impl_size_Sint64.cfg N) (fnBody Try.f34) := loopsL (l := []) (by kernel_rfl) trivial
theorem impl_size_Sint64.b (N : Nat) (x0 : den (.sl 2 (.int .i64))) : body (impl_size_Sint64.cfg N) N Try.f34 [.one] [.v] [(false, .imm)] [⟨(.sl 2 (.int .i64)), .imm, x0⟩] (fun r i => some (r, i)) = bindO (impl_size_Sint64 N x0) fun r => some ([⟨(.int .i64), .imm, r⟩], []) := by
  show _ = bindF _ _
  conv => rhs; simp only [impl_size_Sint64, bindF_ifB, bindF_bindO, bindF_pure, bindF_none, bindF_onSum]
  kernel_rfl
theorem impl_size_Sint64.ok (N : Nat) : ConOk Try.prog 34 [.one] (impl_size_Sint64.con N) := by
  refine conOk_mk (g := impl_size_Sint64.cfg N) (N := N) (res := [(false, .imm)]) tys_ok (impl_size_Sint64.cons N) mixed Try.func34 (impl_size_Sint64.ls N) rfl rfl ?_
  intro ds R k y h
  cases ds with
  | nil => exact none_some h
  | cons d0 ds =>
  cases ds with
  | cons _ _ => exact none_some h
  | nil =>
  have h0 : (castDm (.sl 2 (.int .i64)) .imm d0 fun x0 => bindO (impl_size_Sint64 N x0) fun r => k [⟨(.int .i64), .imm, r⟩] []) = some y := h
  clear h
  obtain ⟨x0, rfl, h1⟩ := castDm_eq h0
  exact con_fin (impl_size_Sint64.b N x0) h1
def impl_within.con (N : Nat) : Con := { modes := [.v, .v, .v], ptrs := [false], fn := fun ds k => match ds with | [d0, d1, d2] => castDm (.int .i64) .imm d0 fun x0 => castDm (.int .i64) .imm d1 fun x1 => castDm (.int .i64) .imm d2 fun x2 => bindO (impl_within N x0 x1 x2) fun r => k [⟨.bool, .imm, r⟩] [] | _ => none }
def impl_within.cfg (N : Nat) : Cfg := { ty := tys, keep := [], flt := [], elm := [], live := [], ord := [], con := [], loops := [], joins := [] }
theorem impl_within.cons (N : Nat) : ConsOk Try.prog (impl_within.cfg N).con := consOk_nil
theorem impl_within.ls (N : Nat) : LoopsOk Try.prog (impl_within.cfg N) (fnBody Try.f33) := loopsL (l := []) (by kernel_rfl) trivial
theorem impl_within.b (N : Nat) (x0 : den (.int .i64)) (x1 : den (.int .i64)) (x2 : den (.int .i64)) : body (impl_within.cfg N) N Try.f33 [.one, .one, .one] [.v, .v, .v] [(false, .imm)] [⟨(.int .i64), .imm, x0⟩, ⟨(.int .i64), .imm, x1⟩, ⟨(.int .i64), .imm, x2⟩] (fun r i => some (r, i)) = bindO (impl_within N x0 x1 x2) fun r => some ([⟨.bool, .imm, r⟩], []) := by
  show _ = bindF _ _
  conv => rhs; simp only [impl_within, bindF_ifB, bindF_bindO, bindF_pure, bindF_none, bindF_onSum]
  kernel_rfl
theorem impl_within.ok (N : Nat) : ConOk Try.prog 33 [.one, .one, .one] (impl_within.con N) := by
  refine conOk_mk (g := impl_within.cfg N) (N := N) (res := [(false, .imm)]) tys_ok (impl_within.cons N) mixed Try.func33 (impl_within.ls N) rfl rfl ?_
  intro ds R k y h
  cases ds with
  | nil => exact none_some h
  | cons d0 ds =>
  cases ds with
  | nil => exact none_some h
  | cons d1 ds =>
  cases ds with
  | nil => exact none_some h
  | cons d2 ds =>
  cases ds with
  | cons _ _ => exact none_some h
  | nil =>
  have h0 : (castDm (.int .i64) .imm d0 fun x0 => castDm (.int .i64) .imm d1 fun x1 => castDm (.int .i64) .imm d2 fun x2 => bindO (impl_within N x0 x1 x2) fun r => k [⟨.bool, .imm, r⟩] []) = some y := h
  clear h
  obtain ⟨x0, rfl, h1⟩ := castDm_eq h0
  obtain ⟨x1, rfl, h2⟩ := castDm_eq h1
  obtain ⟨x2, rfl, h3⟩ := castDm_eq h2
  exact con_fin (impl_within.b N x0 x1 x2) h3
def impl_isPoint.con (N : Nat) : Con := { modes := [.v], ptrs := [false], fn := fun ds k => match ds with | [d0] => castDm (.int .i64) .imm d0 fun x0 => bindO (impl_isPoint N x0) fun r => k [⟨.bool, .imm, r⟩] [] | _ => none }
def impl_isPoint.cfg (N : Nat) : Cfg := { ty := tys, keep := [4, 7], flt := [], elm := [], live := [], ord := [], con := [((33, [.one, .one, .one]), impl_within.con N)], loops := [], joins := [] }
theorem impl_isPoint.cons (N : Nat) : ConsOk Try.prog (impl_isPoint.cfg N).con := (consOk_cons (hb33) (impl_within.ok N) consOk_nil)
theorem impl_isPoint.ls (N : Nat) : LoopsOk Try.prog (impl_isPoint.cfg N) (fnBody Try.f53) := loopsL (l := []) (by kernel_rfl) trivial
theorem impl_isPoint.b (N : Nat) (x0 : den (.int .i64)) : body (impl_isPoint.cfg N) N Try.f53 [.one] [.v] [(false, .imm)] [⟨(.int .i64), .imm, x0⟩] (fun r i => some (r, i)) = bindO (impl_isPoint N x0) fun r => some ([⟨.bool, .imm, r⟩], []) := by
  show _ = bindF _ _
  conv => rhs; simp only [impl_isPoint, bindF_ifB, bindF_bindO, bindF_pure, bindF_none, bindF_onSum]
  kernel_rfl
theorem impl_isPoint.ok (N : Nat) : ConOk Try.prog 53 [.one] (impl_isPoint.con N) := by
  refine conOk_mk (g := impl_isPoint.cfg N) (N := N) (res := [(false, .imm)]) tys_ok (impl_isPoint.cons N) mixed Try.func53 (impl_isPoint.ls N) rfl rfl ?_
  intro ds R k y h
  cases ds with
  | nil => exact none_some h
  | cons d0 ds =>
  cases ds with
  | cons _ _ => exact none_some h
  | nil =>
  have h0 : (castDm (.int .i64) .imm d0 fun x0 => bindO (impl_isPoint N x0) fun r => k [⟨.bool, .imm, r⟩] []) = some y := h
  clear h
  obtain ⟨x0, rfl, h1⟩ := castDm_eq h0
  exact con_fin (impl_isPoint.b N x0) h1
def impl_ClassOf.con (N : Nat) : Con := { modes := [.v], ptrs := [false], fn := fun ds k => match ds with | [d0] => castDm (.int .i64) .imm d0 fun x0 => bindO (impl_ClassOf N x0) fun r => k [⟨(.int .i64), .imm, r⟩] [] | _ => none }
def impl_ClassOf.cfg (N : Nat) : Cfg := { ty := tys, keep := [5, 20, 23, 27], flt := [], elm := [], live := [], ord := [], con := [((53, [.one]), impl_isPoint.con N), ((33, [.one, .one, .one]), impl_within.con N)], loops := [], joins := [] }
theorem impl_ClassOf.cons (N : Nat) : ConsOk Try.prog (impl_ClassOf.cfg N).con := (consOk_cons (hb53) (impl_isPoint.ok N) (consOk_cons (hb33) (impl_within.ok N) consOk_nil))
theorem impl_ClassOf.ls (N : Nat) : LoopsOk Try.prog (impl_ClassOf.cfg N) (fnBody Try.f37) := loopsL (l := []) (by kernel_rfl) trivial
theorem impl_ClassOf.b (N : Nat) (x0 : den (.int .i64)) : body (impl_ClassOf.cfg N) N Try.f37 [.one] [.v] [(false, .imm)] [⟨(.int .i64), .imm, x0⟩] (fun r i => some (r, i)) = bindO (impl_ClassOf N x0) fun r => some ([⟨(.int .i64), .imm, r⟩], []) := by
  show _ = bindF _ _
  conv => rhs; simp only [impl_ClassOf, bindF_ifB, bindF_bindO, bindF_pure, bindF_none, bindF_onSum]
  kernel_rfl
theorem impl_ClassOf.ok (N : Nat) : ConOk Try.prog 37 [.one] (impl_ClassOf.con N) := by
  refine conOk_mk (g := impl_ClassOf.cfg N) (N := N) (res := [(false, .imm)]) tys_ok (impl_ClassOf.cons N) mixed Try.func37 (impl_ClassOf.ls N) rfl rfl ?_
  intro ds R k y h
  cases ds with
  | nil => exact none_some h
  | cons d0 ds =>
  cases ds with
  | cons _ _ => exact none_some h
  | nil =>
  have h0 : (castDm (.int .i64) .imm d0 fun x0 => bindO (impl_ClassOf N x0) fun r => k [⟨(.int .i64), .imm, r⟩] []) = some y := h
  clear h
  obtain ⟨x0, rfl, h1⟩ := castDm_eq h0
  exact con_fin (impl_ClassOf.b N x0) h1
def impl_CandsRight_c1_c1.con (N : Nat) : Con := { modes := [.v], ptrs := [false], fn := fun ds k => match ds with | [d0] => castDm (.int .i64) .imm d0 fun x0 => bindO (impl_CandsRight_c1_c1 N x0) fun r => k [⟨.bool, .imm, r⟩] [] | _ => none }
def impl_CandsRight_c1_c1.cfg (N : Nat) : Cfg := { ty := tys, keep := [4], flt := [], elm := [], live := [], ord := [], con := [((37, [.one]), impl_ClassOf.con N)], loops := [], joins := [] }
theorem impl_CandsRight_c1_c1.cons (N : Nat) : ConsOk Try.prog (impl_CandsRight_c1_c1.cfg N).con := (consOk_cons (hb37) (impl_ClassOf.ok N) consOk_nil)
theorem impl_CandsRight_c1_c1.ls (N : Nat) : LoopsOk Try.prog (impl_CandsRight_c1_c1.cfg N) (fnBody Try.f36) := loopsL (l := []) (by kernel_rfl) trivial
theorem impl_CandsRight_c1_c1.b (N : Nat) (x0 : den (.int .i64)) : body (impl_CandsRight_c1_c1.cfg N) N Try.f36 [.one] [.v] [(false, .imm)] [⟨(.int .i64), .imm, x0⟩] (fun r i => some (r, i)) = bindO (impl_CandsRight_c1_c1 N x0) fun r => some ([⟨.bool, .imm, r⟩], []) := by
  show _ = bindF _ _
  conv => rhs; simp only [impl_CandsRight_c1_c1, bindF_ifB, bindF_bindO, bindF_pure, bindF_none, bindF_onSum]
  kernel_rfl
theorem impl_CandsRight_c1_c1.ok (N : Nat) : ConOk Try.prog 36 [.one] (impl_CandsRight_c1_c1.con N) := by
  refine conOk_mk (g := impl_CandsRight_c1_c1.cfg N) (N := N) (res := [(false, .imm)]) tys_ok (impl_CandsRight_c1_c1.cons N) mixed Try.func36 (impl_CandsRight_c1_c1.ls N) rfl rfl ?_
  intro ds R k y h
  cases ds with
  | nil => exact none_some h
  | cons d0 ds =>
  cases ds with
  | cons _ _ => exact none_some h
  | nil =>
  have h0 : (castDm (.int .i64) .imm d0 fun x0 => bindO (impl_CandsRight_c1_c1 N x0) fun r => k [⟨.bool, .imm, r⟩] []) = some y := h
  clear h
  obtain ⟨x0, rfl, h1⟩ := castDm_eq h0
  exact con_fin (impl_CandsRight_c1_c1.b N x0) h1
end Go.AE.F
