/- The printed functions are what the program comes to: contracts. -/
import Derived.Test.YtpenpjbobpalcaaXCodeOfL0
noncomputable section
namespace Go.AE.F
open Go.AE Go.Proofs
set_option maxRecDepth 100000
def zB2.con (N : Nat) : Con := { modes := [.v], ptrs := [false], fn := fn1 (.int .i64) .imm (zB2 N) (fun r => [⟨.bool, .imm, r⟩]) (fun r => []) }
def zB2.cfg (N : Nat) : Cfg := { ty := tys, keep := [], flt := [], elm := elm0, live := [], ord := [], con := [], loops := [], joins := [] }
theorem zB2.cons (N : Nat) : ConsOk Try.prog TB (zB2.cfg N).con := consOk_nil
theorem zB2.ls (N : Nat) : LoopsOk Try.prog TB (zB2.cfg N) (fnBody Try.f39) := loopsL (l := []) (by kernel_rfl) trivial
theorem zB2.b (N : Nat) (x0 : den (.int .i64)) : body (zB2.cfg N) N Try.f39 [.one] [.v] [(false, .imm)] [⟨(.int .i64), .imm, x0⟩] (fun r i => some (r, i)) = bindO (zB2 N x0) fun r => some ([⟨.bool, .imm, r⟩], []) := by
  show _ = bindF _ _
  conv => rhs; simp only [zB2, bindF_ifB, bindF_bindO, bindF_pure, bindF_none, bindF_onSum]
  kernel_rfl
theorem zB2.ok (N : Nat) : ConOk Try.prog TB 39 [.one] (zB2.con N) := ok1 (g := zB2.cfg N) (N := N) (res := [(false, .imm)]) tys_ok (zB2.cons N) mixed Try.func39 (zB2.ls N) rfl (zB2.b N)
theorem zB2.det (N : Nat) : ConDet (zB2.con N) := det1
def zB4.con (N : Nat) : Con := { modes := [.v], ptrs := [false], fn := fn1 s34 .imm (zB4 N) (fun r => [⟨.str, .imm, r⟩]) (fun r => []) }
def zB4.cfg (N : Nat) : Cfg := { ty := tys, keep := [], flt := [], elm := elm0, live := [], ord := [], con := [], loops := [], joins := [] }
theorem zB4.cons (N : Nat) : ConsOk Try.prog TB (zB4.cfg N).con := consOk_nil
theorem zB4.ls (N : Nat) : LoopsOk Try.prog TB (zB4.cfg N) (fnBody Try.f40) := loopsL (l := []) (by kernel_rfl) trivial
theorem zB4.b (N : Nat) (x0 : den s34) : body (zB4.cfg N) N Try.f40 [.one] [.v] [(false, .imm)] [⟨s34, .imm, x0⟩] (fun r i => some (r, i)) = bindO (zB4 N x0) fun r => some ([⟨.str, .imm, r⟩], []) := by
  show _ = bindF _ _
  conv => rhs; simp only [zB4, bindF_ifB, bindF_bindO, bindF_pure, bindF_none, bindF_onSum]
  kernel_rfl
theorem zB4.ok (N : Nat) : ConOk Try.prog TB 40 [.one] (zB4.con N) := ok1 (g := zB4.cfg N) (N := N) (res := [(false, .imm)]) tys_ok (zB4.cons N) mixed Try.func40 (zB4.ls N) rfl (zB4.b N)
theorem zB4.det (N : Nat) : ConDet (zB4.con N) := det1
def zA7.sk11 : Skel := ⟨.pv s26 :: (dd 2 (.pv (.int .i64) :: (dd 5 (.ptr 50 [] :: (.pv .str :: (.pv (.int .i64) :: (.pv (.int .i64) :: (dd 91 [])))))))), [⟨50, s34, .imm, true, false⟩]⟩
def zA7.xs11 : List XS := [⟨.exit 0, [11], ⟨dd 11 (.pv (.int .i64) :: (dd 92 [])), []⟩⟩, ⟨.ret, [8], ⟨dd 8 (.pv (.int .i64) :: (dd 95 [])), []⟩⟩]
def zA7.con (N : Nat) : Con := { modes := [.v, .v, .v, .v], ptrs := [false], fn := fun ds k => match ds with | [d0, d1, d2, d3] => castDm s26 .imm d0 fun x0 => castDm (.int .i64) .imm d1 fun x1 => castDm (.int .u8) .imm d2 fun x2 => castDm (.int .i64) .imm d3 fun x3 => bindO (zA7 N x0 x1 x2 x3) fun r => k [⟨(.int .i64), .imm, r⟩] [] | _ => none }
theorem zA7.det (N : Nat) : ConDet (zA7.con N) := by
  intro ds R k y h
  cases ds with
  | nil => exact none_some h
  | cons d0 ds =>
  cases ds with
  | nil => exact none_some h
  | cons d1 ds =>
  cases ds with
  | nil => exact none_some h
  | cons d2 ds =>
  cases ds with
  | nil => exact none_some h
  | cons d3 ds =>
  cases ds with
  | cons _ _ => exact none_some h
  | nil =>
  have h0 : (castDm s26 .imm d0 fun x0 => castDm (.int .i64) .imm d1 fun x1 => castDm (.int .u8) .imm d2 fun x2 => castDm (.int .i64) .imm d3 fun x3 => bindO (zA7 N x0 x1 x2 x3) fun r => k [⟨(.int .i64), .imm, r⟩] []) = some y := h
  clear h
  obtain ⟨x0, rfl, h1⟩ := castDm_eq h0
  obtain ⟨x1, rfl, h2⟩ := castDm_eq h1
  obtain ⟨x2, rfl, h3⟩ := castDm_eq h2
  obtain ⟨x3, rfl, h4⟩ := castDm_eq h3
  obtain ⟨r, e, h⟩ := bindO_some h4
  refine ⟨_, _, h, fun k' => ?_⟩
  show (castDm s26 .imm (⟨s26, .imm, x0⟩ : Dy) fun x0 => castDm (.int .i64) .imm (⟨(.int .i64), .imm, x1⟩ : Dy) fun x1 => castDm (.int .u8) .imm (⟨(.int .u8), .imm, x2⟩ : Dy) fun x2 => castDm (.int .i64) .imm (⟨(.int .i64), .imm, x3⟩ : Dy) fun x3 => bindO (zA7 N x0 x1 x2 x3) fun r => k' [⟨(.int .i64), .imm, r⟩] []) = _
  simp only [castDm_self]
  rw [e]
  rfl
def zA7.cfg (N : Nat) : Cfg := { ty := tys, keep := [27, 47, 57, 62, 100], flt := [], elm := elm0, live := [(11, [0, 3, 9, 10, 11, 12])], ord := [], con := [((37, [.one]), zB7.con N), ((38, [.one]), zB3.con N), ((39, [.one]), zB2.con N), ((40, [.one]), zB4.con N), ((23, [.one, .one, .one, .one]), zA7.con N)], loops := [(11, loopCon N zA7.sk11 zA7.xs11 (fun {R} => zA7.l11 (R := R) N (zA7 N)))], joins := [(12, [⟨.normal, [0, 3, 9, 10, 11, 12], ⟨.pv s26 :: (dd 2 (.pv (.int .i64) :: (dd 5 (.ptr 50 [] :: (.pv .str :: (.pv (.int .i64) :: (.pv (.int .i64) :: (dd 91 [])))))))), [⟨50, s34, .imm, true, false⟩]⟩⟩, ⟨.ret, [8], ⟨dd 8 (.pv (.int .i64) :: (dd 95 [])), []⟩⟩])] }
theorem zA7.cons (N : Nat) (h : ConOk Try.prog TB 23 [.one, .one, .one, .one] (zA7.con N)) : ConsOk Try.prog TB (zA7.cfg N).con := (consOk_cons (hb37) (zB7.ok N) (zB7.det N) (consOk_cons (hb38) (zB3.ok N) (zB3.det N) (consOk_cons (hb39) (zB2.ok N) (zB2.det N) (consOk_cons (hb40) (zB4.ok N) (zB4.det N) (consOk_cons (hb23) h (zA7.det N) consOk_nil)))))
theorem zA7.h11 {R : Type} (N : Nat) (d : zA7.sk11.D) (kn : zA7.sk11.D → Option R) (kx : XD zA7.xs11 → Option R) : roundK (zA7.cfg N) N (nthLoop (fnBody Try.f23) 0) zA7.sk11 zA7.xs11 d kn kx = zA7.l11 N (zA7 N) d kn kx := by kernel_rfl
theorem zA7.i11 (N : Nat) (h : ConOk Try.prog TB 23 [.one, .one, .one, .one] (zA7.con N)) : LoopsOk Try.prog TB (zA7.cfg N) (nthLoop (fnBody Try.f23) 0) := loopsL (l := []) (by kernel_rfl) trivial
theorem zA7.o11 (N : Nat) (h : ConOk Try.prog TB 23 [.one, .one, .one, .one] (zA7.con N)) : LoopOk Try.prog TB (nthLoop (fnBody Try.f23) 0) (loopCon N zA7.sk11 zA7.xs11 (fun {R} => zA7.l11 (R := R) N (zA7 N))) := loop_ok (g := zA7.cfg N) tys_ok (zA7.cons N h) mixed (zA7.i11 N h) (fun d kn kx => zA7.h11 N d kn kx)
theorem zA7.ls (N : Nat) (h : ConOk Try.prog TB 23 [.one, .one, .one, .one] (zA7.con N)) : LoopsOk Try.prog TB (zA7.cfg N) (fnBody Try.f23) := loopsL (l := [nthLoop (fnBody Try.f23) 0]) (by kernel_rfl) ⟨loopOne (L0 := loopCon N zA7.sk11 zA7.xs11 (fun {R} => zA7.l11 (R := R) N (zA7 N))) (id := 11) (by kernel_rfl) (by kernel_rfl) (zA7.o11 N h), trivial⟩
theorem zA7.q11 {R R' : Type} {N n : Nat} {rc} {d} {k} {g : R → Option R'} : bindF (loopP (zA7.l11 N rc) n d k) g = loopP (zA7.l11 N rc) n d fun e => bindF (k e) g := bindF_loopP (fun d kn kx => by simp only [zA7.l11, bindF_ifB, bindF_bindO, bindF_pure, bindF_none, bindF_onSum]) n d k
theorem zA7.b (N : Nat) (x0 : den s26) (x1 : den (.int .i64)) (x2 : den (.int .u8)) (x3 : den (.int .i64)) : body (zA7.cfg N) N Try.f23 [.one, .one, .one, .one] [.v, .v, .v, .v] [(false, .imm)] [⟨s26, .imm, x0⟩, ⟨(.int .i64), .imm, x1⟩, ⟨(.int .u8), .imm, x2⟩, ⟨(.int .i64), .imm, x3⟩] (fun r i => some (r, i)) = bindO (zA7.st N (zA7 N) x0 x1 x2 x3) fun r => some ([⟨(.int .i64), .imm, r⟩], []) := by
  show _ = bindF _ _
  conv => rhs; simp only [zA7.st, bindF_ifB, bindF_bindO, bindF_pure, bindF_none, bindF_onSum, zA7.q11]
  kernel_rfl
theorem zA7.ok0 : ConOk Try.prog TB 23 [.one, .one, .one, .one] (zA7.con 0) := by
  refine ⟨fun _ => ?_, fun b h => by cases h⟩
  intro w m H vs fl ds _ hp ha hc hH hD R k y h
  cases ds with
  | nil => exact none_some h
  | cons d0 ds =>
  cases ds with
  | nil => exact none_some h
  | cons d1 ds =>
  cases ds with
  | nil => exact none_some h
  | cons d2 ds =>
  cases ds with
  | nil => exact none_some h
  | cons d3 ds =>
  cases ds with
  | cons _ _ => exact none_some h
  | nil =>
  have h0 : (castDm s26 .imm d0 fun x0 => castDm (.int .i64) .imm d1 fun x1 => castDm (.int .u8) .imm d2 fun x2 => castDm (.int .i64) .imm d3 fun x3 => bindO (zA7 0 x0 x1 x2 x3) fun r => k [⟨(.int .i64), .imm, r⟩] []) = some y := h
  clear h
  obtain ⟨x0, rfl, h1⟩ := castDm_eq h0
  obtain ⟨x1, rfl, h2⟩ := castDm_eq h1
  obtain ⟨x2, rfl, h3⟩ := castDm_eq h2
  obtain ⟨x3, rfl, h4⟩ := castDm_eq h3
  exact none_some h4
theorem zA7.okS (N : Nat) (h : ConOk Try.prog TB 23 [.one, .one, .one, .one] (zA7.con N)) : ConOk Try.prog TB 23 [.one, .one, .one, .one] (zA7.con (N + 1)) := by
  refine conOk_mk (g := zA7.cfg N) (N := N) (res := [(false, .imm)]) tys_ok (zA7.cons N h) mixed Try.func23 (zA7.ls N h) rfl rfl rfl ?_
  intro ds R k y h
  cases ds with
  | nil => exact none_some h
  | cons d0 ds =>
  cases ds with
  | nil => exact none_some h
  | cons d1 ds =>
  cases ds with
  | nil => exact none_some h
  | cons d2 ds =>
  cases ds with
  | nil => exact none_some h
  | cons d3 ds =>
  cases ds with
  | cons _ _ => exact none_some h
  | nil =>
  have h0 : (castDm s26 .imm d0 fun x0 => castDm (.int .i64) .imm d1 fun x1 => castDm (.int .u8) .imm d2 fun x2 => castDm (.int .i64) .imm d3 fun x3 => bindO (zA7.st N (zA7 N) x0 x1 x2 x3) fun r => k [⟨(.int .i64), .imm, r⟩] []) = some y := h
  clear h
  obtain ⟨x0, rfl, h1⟩ := castDm_eq h0
  obtain ⟨x1, rfl, h2⟩ := castDm_eq h1
  obtain ⟨x2, rfl, h3⟩ := castDm_eq h2
  obtain ⟨x3, rfl, h4⟩ := castDm_eq h3
  exact con_fin (zA7.b N x0 x1 x2 x3) h4
theorem zA7.okA : ∀ N : Nat, ConOk Try.prog TB 23 [.one, .one, .one, .one] (zA7.con N)
| 0 => zA7.ok0
| N + 1 => zA7.okS N (zA7.okA N)
theorem zA7.ok (N : Nat) : ConOk Try.prog TB 23 [.one, .one, .one, .one] (zA7.con N) := (zA7.okA N)
def zA5.sk3 : Skel := ⟨.pv s26 :: (dd 2 (.ov 50 [] :: (.pv (.int .i64) :: (dd 53 [])))), [⟨50, (.sl 9 .str), (.own .imm), false, false⟩]⟩
def zA5.xs3 : List XS := [⟨.exit 0, [3], ⟨dd 3 (.ov 50 [] :: (dd 54 [])), [⟨50, (.sl 9 .str), (.own .imm), false, false⟩]⟩⟩]
def zA5.sk8 : Skel := ⟨.pv s26 :: (dd 2 (.ov 50 [] :: (.pv (.int .i64) :: (.pv .bool :: (.pv (.int .i64) :: (dd 51 [])))))), [⟨50, (.sl 9 .str), (.own .imm), false, false⟩]⟩
def zA5.xs8 : List XS := [⟨.exit 2, [0, 3, 4, 5], ⟨.pv s26 :: (dd 2 (.ov 50 [] :: (.pv (.int .i64) :: (.pv .bool :: (dd 52 []))))), [⟨50, (.sl 9 .str), (.own .imm), false, false⟩]⟩⟩]
def zA5.con (N : Nat) : Con := { modes := [.v], ptrs := [false], fn := fn1 s26 .imm (zA5 N) (fun r => [⟨(.sl 9 .str), (.own .imm), r⟩]) (fun r => []) }
def zA5.cfg (N : Nat) : Cfg := { ty := tys, keep := [], flt := [], elm := elm0, live := [(8, [0, 3, 4, 5, 6]), (3, [0, 3, 4])], ord := [(10, [0, 1, 2, 3, 4, 5, 6, 7, 8, 9, 10, 11, 12, 13])], con := [], loops := [(3, loopCon N zA5.sk3 zA5.xs3 (fun {R} => zA5.l3 (R := R) N)), (8, loopCon N zA5.sk8 zA5.xs8 (fun {R} => zA5.l8 (R := R) N))], joins := [(9, [⟨.normal, [0, 3, 4, 5, 6], ⟨.pv s26 :: (dd 2 (.ov 50 [] :: (.pv (.int .i64) :: (.pv .bool :: (.pv (.int .i64) :: (dd 51 [])))))), [⟨50, (.sl 9 .str), (.own .imm), false, false⟩]⟩⟩]), (4, [⟨.normal, [0, 3, 4], ⟨.pv s26 :: (dd 2 (.ov 50 [] :: (.pv (.int .i64) :: (dd 53 [])))), [⟨50, (.sl 9 .str), (.own .imm), false, false⟩]⟩⟩])] }
theorem zA5.cons (N : Nat) : ConsOk Try.prog TB (zA5.cfg N).con := consOk_nil
theorem zA5.h8 {R : Type} (N : Nat) (d : zA5.sk8.D) (kn : zA5.sk8.D → Option R) (kx : XD zA5.xs8 → Option R) : roundK (zA5.cfg N) N (nthLoop (fnBody Try.f15) 1) zA5.sk8 zA5.xs8 d kn kx = zA5.l8 N d kn kx := by kernel_rfl
theorem zA5.i8 (N : Nat) : LoopsOk Try.prog TB (zA5.cfg N) (nthLoop (fnBody Try.f15) 1) := loopsL (l := []) (by kernel_rfl) trivial
theorem zA5.o8 (N : Nat) : LoopOk Try.prog TB (nthLoop (fnBody Try.f15) 1) (loopCon N zA5.sk8 zA5.xs8 (fun {R} => zA5.l8 (R := R) N)) := loop_ok (g := zA5.cfg N) tys_ok (zA5.cons N) mixed (zA5.i8 N) (fun d kn kx => zA5.h8 N d kn kx)
theorem zA5.h3 {R : Type} (N : Nat) (d : zA5.sk3.D) (kn : zA5.sk3.D → Option R) (kx : XD zA5.xs3 → Option R) : roundK (zA5.cfg N) N (nthLoop (fnBody Try.f15) 0) zA5.sk3 zA5.xs3 d kn kx = zA5.l3 N d kn kx := by kernel_rfl
theorem zA5.i3 (N : Nat) : LoopsOk Try.prog TB (zA5.cfg N) (nthLoop (fnBody Try.f15) 0) := loopsL (l := [nthLoop (fnBody Try.f15) 1]) (by kernel_rfl) ⟨loopOne (L0 := loopCon N zA5.sk8 zA5.xs8 (fun {R} => zA5.l8 (R := R) N)) (id := 8) (by kernel_rfl) (by kernel_rfl) (zA5.o8 N), trivial⟩
theorem zA5.o3 (N : Nat) : LoopOk Try.prog TB (nthLoop (fnBody Try.f15) 0) (loopCon N zA5.sk3 zA5.xs3 (fun {R} => zA5.l3 (R := R) N)) := loop_ok (g := zA5.cfg N) tys_ok (zA5.cons N) mixed (zA5.i3 N) (fun d kn kx => zA5.h3 N d kn kx)
theorem zA5.ls (N : Nat) : LoopsOk Try.prog TB (zA5.cfg N) (fnBody Try.f15) := loopsL (l := [nthLoop (fnBody Try.f15) 0, nthLoop (fnBody Try.f15) 1]) (by kernel_rfl) ⟨loopOne (L0 := loopCon N zA5.sk3 zA5.xs3 (fun {R} => zA5.l3 (R := R) N)) (id := 3) (by kernel_rfl) (by kernel_rfl) (zA5.o3 N), ⟨loopOne (L0 := loopCon N zA5.sk8 zA5.xs8 (fun {R} => zA5.l8 (R := R) N)) (id := 8) (by kernel_rfl) (by kernel_rfl) (zA5.o8 N), trivial⟩⟩
theorem zA5.q8 {R R' : Type} {N n : Nat} {d} {k} {g : R → Option R'} : bindF (loopP (zA5.l8 N) n d k) g = loopP (zA5.l8 N) n d fun e => bindF (k e) g := bindF_loopP (fun d kn kx => by simp only [zA5.l8, bindF_ifB, bindF_bindO, bindF_pure, bindF_none, bindF_onSum]) n d k
theorem zA5.q3 {R R' : Type} {N n : Nat} {d} {k} {g : R → Option R'} : bindF (loopP (zA5.l3 N) n d k) g = loopP (zA5.l3 N) n d fun e => bindF (k e) g := bindF_loopP (fun d kn kx => by simp only [zA5.l3, bindF_ifB, bindF_bindO, bindF_pure, bindF_none, bindF_onSum, zA5.q8]) n d k
theorem zA5.b (N : Nat) (x0 : den s26) : body (zA5.cfg N) N Try.f15 [.one] [.v] [(false, (.own .imm))] [⟨s26, .imm, x0⟩] (fun r i => some (r, i)) = bindO (zA5 N x0) fun r => some ([⟨(.sl 9 .str), (.own .imm), r⟩], []) := by
  show _ = bindF _ _
  conv => rhs; simp only [zA5, bindF_ifB, bindF_bindO, bindF_pure, bindF_none, bindF_onSum, zA5.q3, zA5.q8]
  kernel_rfl
theorem zA5.ok (N : Nat) : ConOk Try.prog TB 15 [.one] (zA5.con N) := ok1 (g := zA5.cfg N) (N := N) (res := [(false, (.own .imm))]) tys_ok (zA5.cons N) mixed Try.func15 (zA5.ls N) rfl (zA5.b N)
theorem zA5.det (N : Nat) : ConDet (zA5.con N) := det1
def zAV.con (N : Nat) : Con := { modes := [.v], ptrs := [false], fn := fn1 s26 .imm (zAV N) (fun r => [⟨.bool, .imm, r⟩]) (fun r => []) }
def zAV.cfg (N : Nat) : Cfg := { ty := tys, keep := [8, 15], flt := [], elm := elm0, live := [], ord := [], con := [((23, [.one, .one, .one, .one]), zA7.con N), ((15, [.one]), zA5.con N)], loops := [], joins := [] }
theorem zAV.cons (N : Nat) : ConsOk Try.prog TB (zAV.cfg N).con := (consOk_cons (hb23) (zA7.ok N) (zA7.det N) (consOk_cons (hb15) (zA5.ok N) (zA5.det N) consOk_nil))
theorem zAV.ls (N : Nat) : LoopsOk Try.prog TB (zAV.cfg N) (fnBody Try.f14) := loopsL (l := []) (by kernel_rfl) trivial
theorem zAV.b (N : Nat) (x0 : den s26) : body (zAV.cfg N) N Try.f14 [.one] [.v] [(false, .imm)] [⟨s26, .imm, x0⟩] (fun r i => some (r, i)) = bindO (zAV N x0) fun r => some ([⟨.bool, .imm, r⟩], []) := by
  show _ = bindF _ _
  conv => rhs; simp only [zAV, bindF_ifB, bindF_bindO, bindF_pure, bindF_none, bindF_onSum]
  kernel_rfl
theorem zAV.ok (N : Nat) : ConOk Try.prog TB 14 [.one] (zAV.con N) := ok1 (g := zAV.cfg N) (N := N) (res := [(false, .imm)]) tys_ok (zAV.cons N) mixed Try.func14 (zAV.ls N) rfl (zAV.b N)
theorem zAV.det (N : Nat) : ConDet (zAV.con N) := det1
def zAA.con (N : Nat) : Con := { modes := [.io, .v, .v], ptrs := [false], fn := fn3 s40 (.pr .imm (.pr .imm (.pr (.own .imm) .imm))) (.int .i64) .imm (.int .i64) .imm (zAA N) (fun r => [⟨(.int .i64), .imm, r.1⟩]) (fun r => [⟨s40, (.pr .imm (.pr .imm (.pr (.own .imm) .imm))), r.2⟩]) }
def zAA.cfg (N : Nat) : Cfg := { ty := tys, keep := [], flt := [], elm := elm0, live := [], ord := [], con := [], loops := [], joins := [] }
theorem zAA.cons (N : Nat) : ConsOk Try.prog TB (zAA.cfg N).con := consOk_nil
theorem zAA.ls (N : Nat) : LoopsOk Try.prog TB (zAA.cfg N) (fnBody Try.f24) := loopsL (l := []) (by kernel_rfl) trivial
theorem zAA.b (N : Nat) (x0 : den s40) (x1 : den (.int .i64)) (x2 : den (.int .i64)) : body (zAA.cfg N) N Try.f24 [.one, .one, .one] [.io, .v, .v] [(false, .imm)] [⟨s40, (.pr .imm (.pr .imm (.pr (.own .imm) .imm))), x0⟩, ⟨(.int .i64), .imm, x1⟩, ⟨(.int .i64), .imm, x2⟩] (fun r i => some (r, i)) = bindO (zAA N x0 x1 x2) fun r => some ([⟨(.int .i64), .imm, r.1⟩], [⟨s40, (.pr .imm (.pr .imm (.pr (.own .imm) .imm))), r.2⟩]) := by
  show _ = bindF _ _
  conv => rhs; simp only [zAA, bindF_ifB, bindF_bindO, bindF_pure, bindF_none, bindF_onSum]
  kernel_rfl
theorem zAA.ok (N : Nat) : ConOk Try.prog TB 24 [.one, .one, .one] (zAA.con N) := ok3 (g := zAA.cfg N) (N := N) (res := [(false, .imm)]) tys_ok (zAA.cons N) mixed Try.func24 (zAA.ls N) rfl (zAA.b N)
theorem zAA.det (N : Nat) : ConDet (zAA.con N) := det3
def zAL.con (N : Nat) : Con := { modes := [.rd], ptrs := [false], fn := fn1 s40 .imm (zAL N) (fun r => [⟨(.int .i64), .imm, r⟩]) (fun r => []) }
def zAL.cfg (N : Nat) : Cfg := { ty := tys, keep := [], flt := [], elm := elm0, live := [], ord := [], con := [], loops := [], joins := [] }
theorem zAL.cons (N : Nat) : ConsOk Try.prog TB (zAL.cfg N).con := consOk_nil
theorem zAL.ls (N : Nat) : LoopsOk Try.prog TB (zAL.cfg N) (fnBody Try.f25) := loopsL (l := []) (by kernel_rfl) trivial
theorem zAL.b (N : Nat) (x0 : den s40) : body (zAL.cfg N) N Try.f25 [.one] [.rd] [(false, .imm)] [⟨s40, .imm, x0⟩] (fun r i => some (r, i)) = bindO (zAL N x0) fun r => some ([⟨(.int .i64), .imm, r⟩], []) := by
  show _ = bindF _ _
  conv => rhs; simp only [zAL, bindF_ifB, bindF_bindO, bindF_pure, bindF_none, bindF_onSum]
  kernel_rfl
theorem zAL.ok (N : Nat) : ConOk Try.prog TB 25 [.one] (zAL.con N) := ok1 (g := zAL.cfg N) (N := N) (res := [(false, .imm)]) tys_ok (zAL.cons N) mixed Try.func25 (zAL.ls N) rfl (zAL.b N)
theorem zAL.det (N : Nat) : ConDet (zAL.con N) := det1
def zA4.sk2 : Skel := ⟨.rp s40 :: (.pv .str :: (dd 3 (.pv (.int .i64) :: (dd 19 [])))), []⟩
def zA4.xs2 : List XS := [⟨.exit 0, [], ⟨dd 25 [], []⟩⟩, ⟨.ret, [4], ⟨dd 4 (.pv (.int .i64) :: (dd 20 [])), []⟩⟩]
def zA4.con (N : Nat) : Con := { modes := [.rd, .v], ptrs := [false], fn := fn2 s40 .imm .str .imm (zA4 N) (fun r => [⟨(.int .i64), .imm, r⟩]) (fun r => []) }
def zA4.cfg (N : Nat) : Cfg := { ty := tys, keep := [], flt := [], elm := elm0, live := [(2, [0, 1, 5])], ord := [], con := [], loops := [(2, loopCon N zA4.sk2 zA4.xs2 (fun {R} => zA4.l2 (R := R) N))], joins := [] }
theorem zA4.cons (N : Nat) : ConsOk Try.prog TB (zA4.cfg N).con := consOk_nil
theorem zA4.h2 {R : Type} (N : Nat) (d : zA4.sk2.D) (kn : zA4.sk2.D → Option R) (kx : XD zA4.xs2 → Option R) : roundK (zA4.cfg N) N (nthLoop (fnBody Try.f26) 0) zA4.sk2 zA4.xs2 d kn kx = zA4.l2 N d kn kx := by kernel_rfl
theorem zA4.i2 (N : Nat) : LoopsOk Try.prog TB (zA4.cfg N) (nthLoop (fnBody Try.f26) 0) := loopsL (l := []) (by kernel_rfl) trivial
theorem zA4.o2 (N : Nat) : LoopOk Try.prog TB (nthLoop (fnBody Try.f26) 0) (loopCon N zA4.sk2 zA4.xs2 (fun {R} => zA4.l2 (R := R) N)) := loop_ok (g := zA4.cfg N) tys_ok (zA4.cons N) mixed (zA4.i2 N) (fun d kn kx => zA4.h2 N d kn kx)
theorem zA4.ls (N : Nat) : LoopsOk Try.prog TB (zA4.cfg N) (fnBody Try.f26) := loopsL (l := [nthLoop (fnBody Try.f26) 0]) (by kernel_rfl) ⟨loopOne (L0 := loopCon N zA4.sk2 zA4.xs2 (fun {R} => zA4.l2 (R := R) N)) (id := 2) (by kernel_rfl) (by kernel_rfl) (zA4.o2 N), trivial⟩
theorem zA4.q2 {R R' : Type} {N n : Nat} {d} {k} {g : R → Option R'} : bindF (loopP (zA4.l2 N) n d k) g = loopP (zA4.l2 N) n d fun e => bindF (k e) g := bindF_loopP (fun d kn kx => by simp only [zA4.l2, bindF_ifB, bindF_bindO, bindF_pure, bindF_none, bindF_onSum]) n d k
theorem zA4.b (N : Nat) (x0 : den s40) (x1 : den .str) : body (zA4.cfg N) N Try.f26 [.one, .one] [.rd, .v] [(false, .imm)] [⟨s40, .imm, x0⟩, ⟨.str, .imm, x1⟩] (fun r i => some (r, i)) = bindO (zA4 N x0 x1) fun r => some ([⟨(.int .i64), .imm, r⟩], []) := by
  show _ = bindF _ _
  conv => rhs; simp only [zA4, bindF_ifB, bindF_bindO, bindF_pure, bindF_none, bindF_onSum, zA4.q2]
  kernel_rfl
theorem zA4.ok (N : Nat) : ConOk Try.prog TB 26 [.one, .one] (zA4.con N) := ok2 (g := zA4.cfg N) (N := N) (res := [(false, .imm)]) tys_ok (zA4.cons N) mixed Try.func26 (zA4.ls N) rfl (zA4.b N)
theorem zA4.det (N : Nat) : ConDet (zA4.con N) := det2
def zB1.con (N : Nat) : Con := { modes := [.v], ptrs := [false], fn := fn1 (.int .i64) .imm (zB1 N) (fun r => [⟨(.int .i64), .imm, r⟩]) (fun r => []) }
def zB1.cfg (N : Nat) : Cfg := { ty := tys, keep := [], flt := [], elm := elm0, live := [], ord := [], con := [], loops := [], joins := [] }
theorem zB1.cons (N : Nat) : ConsOk Try.prog TB (zB1.cfg N).con := consOk_nil
theorem zB1.ls (N : Nat) : LoopsOk Try.prog TB (zB1.cfg N) (fnBody Try.f28) := loopsL (l := []) (by kernel_rfl) trivial
theorem zB1.b (N : Nat) (x0 : den (.int .i64)) : body (zB1.cfg N) N Try.f28 [.one] [.v] [(false, .imm)] [⟨(.int .i64), .imm, x0⟩] (fun r i => some (r, i)) = bindO (zB1 N x0) fun r => some ([⟨(.int .i64), .imm, r⟩], []) := by
  show _ = bindF _ _
  conv => rhs; simp only [zB1, bindF_ifB, bindF_bindO, bindF_pure, bindF_none, bindF_onSum]
  kernel_rfl
theorem zB1.ok (N : Nat) : ConOk Try.prog TB 28 [.one] (zB1.con N) := ok1 (g := zB1.cfg N) (N := N) (res := [(false, .imm)]) tys_ok (zB1.cons N) mixed Try.func28 (zB1.ls N) rfl (zB1.b N)
theorem zB1.det (N : Nat) : ConDet (zB1.con N) := det1
def zA2.sk25 : Skel := ⟨.ptr 0 [] :: (dd 4 (.ptr 50 [] :: (.pv (.int .i64) :: (dd 4 (.pv (.int .i64) :: (dd 149 [])))))), [⟨0, s40, (.pr .imm (.pr .imm (.pr (.own .imm) .imm))), true, false⟩, ⟨50, s34, .imm, true, false⟩]⟩
def zA2.xs25 : List XS := [⟨.exit 1, [0, 5, 6], ⟨.ptr 0 [] :: (dd 4 (.ptr 50 [] :: (.pv (.int .i64) :: (dd 154 [])))), [⟨0, s40, (.pr .imm (.pr .imm (.pr (.own .imm) .imm))), true, false⟩, ⟨50, s34, .imm, true, false⟩]⟩⟩]
def zA2.con (N : Nat) : Con := { modes := [.io, .v], ptrs := [false], fn := fun ds k => match ds with | [d0, d1] => castDm s40 (.pr .imm (.pr .imm (.pr (.own .imm) .imm))) d0 fun x0 => castDm (.int .i64) .imm d1 fun x1 => bindO (zA2 N x0 x1) fun r => k [⟨(.int .i64), .imm, r.1⟩] [⟨s40, (.pr .imm (.pr .imm (.pr (.own .imm) .imm))), r.2⟩] | _ => none }
theorem zA2.det (N : Nat) : ConDet (zA2.con N) := by
  intro ds R k y h
  cases ds with
  | nil => exact none_some h
  | cons d0 ds =>
  cases ds with
  | nil => exact none_some h
  | cons d1 ds =>
  cases ds with
  | cons _ _ => exact none_some h
  | nil =>
  have h0 : (castDm s40 (.pr .imm (.pr .imm (.pr (.own .imm) .imm))) d0 fun x0 => castDm (.int .i64) .imm d1 fun x1 => bindO (zA2 N x0 x1) fun r => k [⟨(.int .i64), .imm, r.1⟩] [⟨s40, (.pr .imm (.pr .imm (.pr (.own .imm) .imm))), r.2⟩]) = some y := h
  clear h
  obtain ⟨x0, rfl, h1⟩ := castDm_eq h0
  obtain ⟨x1, rfl, h2⟩ := castDm_eq h1
  obtain ⟨r, e, h⟩ := bindO_some h2
  refine ⟨_, _, h, fun k' => ?_⟩
  show (castDm s40 (.pr .imm (.pr .imm (.pr (.own .imm) .imm))) (⟨s40, (.pr .imm (.pr .imm (.pr (.own .imm) .imm))), x0⟩ : Dy) fun x0 => castDm (.int .i64) .imm (⟨(.int .i64), .imm, x1⟩ : Dy) fun x1 => bindO (zA2 N x0 x1) fun r => k' [⟨(.int .i64), .imm, r.1⟩] [⟨s40, (.pr .imm (.pr .imm (.pr (.own .imm) .imm))), r.2⟩]) = _
  simp only [castDm_self]
  rw [e]
  rfl
def zA2.cfg (N : Nat) : Cfg := { ty := tys, keep := [20, 29, 31, 34, 39, 46, 51, 58, 67, 74, 77, 79, 82, 85, 92, 104, 113, 114, 123, 124, 132, 140, 141, 149, 153, 158, 159], flt := [], elm := elm0, live := [(25, [0, 5, 6, 11])], ord := [(11, [0, 1, 2, 3, 4, 5, 6, 7, 8, 9]), (13, [0, 1, 2, 3, 4, 5, 6, 7, 8, 9]), (14, [0, 1, 2, 3, 4, 5, 6, 7, 8, 9]), (22, [0, 1, 2, 3, 4, 5, 6, 7, 8, 9])], con := [((24, [.one, .one, .one]), zAA.con N), ((16, [.one, .one]), zA2.con N), ((25, [.one]), zAL.con N), ((26, [.one, .one]), zA4.con N), ((27, [.one]), zA9.con N), ((28, [.one]), zB1.con N)], loops := [(25, loopCon N zA2.sk25 zA2.xs25 (fun {R} => zA2.l25 (R := R) N (zA2 N)))], joins := [(40, [⟨.normal, [6], ⟨dd 6 (.pv (.int .i64) :: (dd 154 [])), [⟨0, s40, (.pr .imm (.pr .imm (.pr (.own .imm) .imm))), true, false⟩]⟩⟩])] }
theorem zA2.cons (N : Nat) (h : ConOk Try.prog TB 16 [.one, .one] (zA2.con N)) : ConsOk Try.prog TB (zA2.cfg N).con := (consOk_cons (hb24) (zAA.ok N) (zAA.det N) (consOk_cons (hb16) h (zA2.det N) (consOk_cons (hb25) (zAL.ok N) (zAL.det N) (consOk_cons (hb26) (zA4.ok N) (zA4.det N) (consOk_cons (hb27) (zA9.ok N) (zA9.det N) (consOk_cons (hb28) (zB1.ok N) (zB1.det N) consOk_nil))))))
theorem zA2.h25 {R : Type} (N : Nat) (d : zA2.sk25.D) (kn : zA2.sk25.D → Option R) (kx : XD zA2.xs25 → Option R) : roundK (zA2.cfg N) N (nthLoop (fnBody Try.f16) 0) zA2.sk25 zA2.xs25 d kn kx = zA2.l25 N (zA2 N) d kn kx := by kernel_rfl
theorem zA2.i25 (N : Nat) (h : ConOk Try.prog TB 16 [.one, .one] (zA2.con N)) : LoopsOk Try.prog TB (zA2.cfg N) (nthLoop (fnBody Try.f16) 0) := loopsL (l := []) (by kernel_rfl) trivial
theorem zA2.o25 (N : Nat) (h : ConOk Try.prog TB 16 [.one, .one] (zA2.con N)) : LoopOk Try.prog TB (nthLoop (fnBody Try.f16) 0) (loopCon N zA2.sk25 zA2.xs25 (fun {R} => zA2.l25 (R := R) N (zA2 N))) := loop_ok (g := zA2.cfg N) tys_ok (zA2.cons N h) mixed (zA2.i25 N h) (fun d kn kx => zA2.h25 N d kn kx)
theorem zA2.ls (N : Nat) (h : ConOk Try.prog TB 16 [.one, .one] (zA2.con N)) : LoopsOk Try.prog TB (zA2.cfg N) (fnBody Try.f16) := loopsL (l := [nthLoop (fnBody Try.f16) 0]) (by kernel_rfl) ⟨loopOne (L0 := loopCon N zA2.sk25 zA2.xs25 (fun {R} => zA2.l25 (R := R) N (zA2 N))) (id := 25) (by kernel_rfl) (by kernel_rfl) (zA2.o25 N h), trivial⟩
theorem zA2.q25 {R R' : Type} {N n : Nat} {rc} {d} {k} {g : R → Option R'} : bindF (loopP (zA2.l25 N rc) n d k) g = loopP (zA2.l25 N rc) n d fun e => bindF (k e) g := bindF_loopP (fun d kn kx => by simp only [zA2.l25, bindF_ifB, bindF_bindO, bindF_pure, bindF_none, bindF_onSum]) n d k
theorem zA2.b (N : Nat) (x0 : den s40) (x1 : den (.int .i64)) : body (zA2.cfg N) N Try.f16 [.one, .one] [.io, .v] [(false, .imm)] [⟨s40, (.pr .imm (.pr .imm (.pr (.own .imm) .imm))), x0⟩, ⟨(.int .i64), .imm, x1⟩] (fun r i => some (r, i)) = bindO (zA2.st N (zA2 N) x0 x1) fun r => some ([⟨(.int .i64), .imm, r.1⟩], [⟨s40, (.pr .imm (.pr .imm (.pr (.own .imm) .imm))), r.2⟩]) := by
  show _ = bindF _ _
  conv => rhs; simp only [zA2.st, bindF_ifB, bindF_bindO, bindF_pure, bindF_none, bindF_onSum, zA2.q25]
  kernel_rfl
theorem zA2.ok0 : ConOk Try.prog TB 16 [.one, .one] (zA2.con 0) := by
  refine ⟨fun _ => ?_, fun b h => by cases h⟩
  intro w m H vs fl ds _ hp ha hc hH hD R k y h
  cases ds with
  | nil => exact none_some h
  | cons d0 ds =>
  cases ds with
  | nil => exact none_some h
  | cons d1 ds =>
  cases ds with
  | cons _ _ => exact none_some h
  | nil =>
  have h0 : (castDm s40 (.pr .imm (.pr .imm (.pr (.own .imm) .imm))) d0 fun x0 => castDm (.int .i64) .imm d1 fun x1 => bindO (zA2 0 x0 x1) fun r => k [⟨(.int .i64), .imm, r.1⟩] [⟨s40, (.pr .imm (.pr .imm (.pr (.own .imm) .imm))), r.2⟩]) = some y := h
  clear h
  obtain ⟨x0, rfl, h1⟩ := castDm_eq h0
  obtain ⟨x1, rfl, h2⟩ := castDm_eq h1
  exact none_some h2
theorem zA2.okS (N : Nat) (h : ConOk Try.prog TB 16 [.one, .one] (zA2.con N)) : ConOk Try.prog TB 16 [.one, .one] (zA2.con (N + 1)) := by
  refine conOk_mk (g := zA2.cfg N) (N := N) (res := [(false, .imm)]) tys_ok (zA2.cons N h) mixed Try.func16 (zA2.ls N h) rfl rfl rfl ?_
  intro ds R k y h
  cases ds with
  | nil => exact none_some h
  | cons d0 ds =>
  cases ds with
  | nil => exact none_some h
  | cons d1 ds =>
  cases ds with
  | cons _ _ => exact none_some h
  | nil =>
  have h0 : (castDm s40 (.pr .imm (.pr .imm (.pr (.own .imm) .imm))) d0 fun x0 => castDm (.int .i64) .imm d1 fun x1 => bindO (zA2.st N (zA2 N) x0 x1) fun r => k [⟨(.int .i64), .imm, r.1⟩] [⟨s40, (.pr .imm (.pr .imm (.pr (.own .imm) .imm))), r.2⟩]) = some y := h
  clear h
  obtain ⟨x0, rfl, h1⟩ := castDm_eq h0
  obtain ⟨x1, rfl, h2⟩ := castDm_eq h1
  exact con_fin (zA2.b N x0 x1) h2
theorem zA2.okA : ∀ N : Nat, ConOk Try.prog TB 16 [.one, .one] (zA2.con N)
| 0 => zA2.ok0
| N + 1 => zA2.okS N (zA2.okA N)
theorem zA2.ok (N : Nat) : ConOk Try.prog TB 16 [.one, .one] (zA2.con N) := (zA2.okA N)
def zB5.con (N : Nat) : Con := { modes := [.v], ptrs := [false], fn := fn1 s26 .imm (zB5 N) (fun r => [⟨s24, (.own .imm), r⟩]) (fun r => []) }
def zB5.cfg (N : Nat) : Cfg := { ty := tys, keep := [], flt := [], elm := elm0, live := [], ord := [], con := [((14, [.one]), zAV.con N), ((15, [.one]), zA5.con N), ((16, [.one, .one]), zA2.con N)], loops := [], joins := [] }
theorem zB5.cons (N : Nat) : ConsOk Try.prog TB (zB5.cfg N).con := (consOk_cons (hb14) (zAV.ok N) (zAV.det N) (consOk_cons (hb15) (zA5.ok N) (zA5.det N) (consOk_cons (hb16) (zA2.ok N) (zA2.det N) consOk_nil)))
theorem zB5.ls (N : Nat) : LoopsOk Try.prog TB (zB5.cfg N) (fnBody Try.f5) := loopsL (l := []) (by kernel_rfl) trivial
theorem zB5.b (N : Nat) (x0 : den s26) : body (zB5.cfg N) N Try.f5 [.one] [.v] [(false, (.own .imm))] [⟨s26, .imm, x0⟩] (fun r i => some (r, i)) = bindO (zB5 N x0) fun r => some ([⟨s24, (.own .imm), r⟩], []) := by
  show _ = bindF _ _
  conv => rhs; simp only [zB5, bindF_ifB, bindF_bindO, bindF_pure, bindF_none, bindF_onSum]
  kernel_rfl
theorem zB5.ok (N : Nat) : ConOk Try.prog TB 5 [.one] (zB5.con N) := ok1 (g := zB5.cfg N) (N := N) (res := [(false, (.own .imm))]) tys_ok (zB5.cons N) mixed Try.func5 (zB5.ls N) rfl (zB5.b N)
theorem zB5.det (N : Nat) : ConDet (zB5.con N) := det1
def zAR.con (N : Nat) : Con := { modes := [.v, .v, .v], ptrs := [false], fn := fn3 (.int .i64) .imm (.int .i64) .imm (.int .i64) .imm (zAR N) (fun r => [⟨.bool, .imm, r⟩]) (fun r => []) }
def zAR.cfg (N : Nat) : Cfg := { ty := tys, keep := [], flt := [], elm := elm0, live := [], ord := [], con := [], loops := [], joins := [] }
theorem zAR.cons (N : Nat) : ConsOk Try.prog TB (zAR.cfg N).con := consOk_nil
theorem zAR.ls (N : Nat) : LoopsOk Try.prog TB (zAR.cfg N) (fnBody Try.f43) := loopsL (l := []) (by kernel_rfl) trivial
theorem zAR.b (N : Nat) (x0 : den (.int .i64)) (x1 : den (.int .i64)) (x2 : den (.int .i64)) : body (zAR.cfg N) N Try.f43 [.one, .one, .one] [.v, .v, .v] [(false, .imm)] [⟨(.int .i64), .imm, x0⟩, ⟨(.int .i64), .imm, x1⟩, ⟨(.int .i64), .imm, x2⟩] (fun r i => some (r, i)) = bindO (zAR N x0 x1 x2) fun r => some ([⟨.bool, .imm, r⟩], []) := by
  show _ = bindF _ _
  conv => rhs; simp only [zAR, bindF_ifB, bindF_bindO, bindF_pure, bindF_none, bindF_onSum]
  kernel_rfl
theorem zAR.ok (N : Nat) : ConOk Try.prog TB 43 [.one, .one, .one] (zAR.con N) := ok3 (g := zAR.cfg N) (N := N) (res := [(false, .imm)]) tys_ok (zAR.cons N) mixed Try.func43 (zAR.ls N) rfl (zAR.b N)
theorem zAR.det (N : Nat) : ConDet (zAR.con N) := det3
end Go.AE.F
end
