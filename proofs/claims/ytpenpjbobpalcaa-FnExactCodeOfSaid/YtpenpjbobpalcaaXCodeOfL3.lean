/- The printed functions are what the program comes to: contracts. -/
import Derived.Test.YtpenpjbobpalcaaXCodeOfL2
noncomputable section
namespace Go.AE.F
open Go.AE Go.Proofs
set_option maxRecDepth 100000
def zBB.con (N : Nat) : Con := { modes := [.v], ptrs := [false, false, false], fn := fn1 s26 .imm (zBB N) (fun r => [⟨(.sl 9 .str), (.own .imm), r.1⟩, ⟨(.int .i64), .imm, r.2.1⟩, ⟨.bool, .imm, r.2.2⟩]) (fun r => []) }
def zBB.cfg (N : Nat) : Cfg := { ty := tys, keep := [26], flt := [], elm := elm0, live := [], ord := [(5, [0, 1, 2, 3, 4, 5, 6, 7, 8, 9, 10, 11, 12, 13])], con := [((29, [.one, .one, .one, .fn 30 2]), zA0.con N)], loops := [], joins := [] }
theorem zBB.cons (N : Nat) : ConsOk Try.prog TB (zBB.cfg N).con := (consOk_cons (hb29) (zA0.ok N) (zA0.det N) consOk_nil)
theorem zBB.ls (N : Nat) : LoopsOk Try.prog TB (zBB.cfg N) (fnBody Try.f18) := loopsL (l := []) (by kernel_rfl) trivial
theorem zBB.b (N : Nat) (x0 : den s26) : body (zBB.cfg N) N Try.f18 [.one] [.v] [(false, (.own .imm)), (false, .imm), (false, .imm)] [⟨s26, .imm, x0⟩] (fun r i => some (r, i)) = bindO (zBB N x0) fun r => some ([⟨(.sl 9 .str), (.own .imm), r.1⟩, ⟨(.int .i64), .imm, r.2.1⟩, ⟨.bool, .imm, r.2.2⟩], []) := by
  show _ = bindF _ _
  conv => rhs; simp only [zBB, bindF_ifB, bindF_bindO, bindF_pure, bindF_none, bindF_onSum]
  kernel_rfl
theorem zBB.ok (N : Nat) : ConOk Try.prog TB 18 [.one] (zBB.con N) := ok1 (g := zBB.cfg N) (N := N) (res := [(false, (.own .imm)), (false, .imm), (false, .imm)]) tys_ok (zBB.cons N) mixed Try.func18 (zBB.ls N) rfl (zBB.b N)
theorem zBB.det (N : Nat) : ConDet (zBB.con N) := det1
def zAO.con (N : Nat) : Con := { modes := [.io, .v, .v], ptrs := [false], fn := fn3 s40 (.pr .imm (.pr .imm (.pr (.own .imm) .imm))) (.int .i64) .imm (.int .i64) .imm (zAO N) (fun r => [⟨(.int .i64), .imm, r.1⟩]) (fun r => [⟨s40, (.pr .imm (.pr .imm (.pr (.own .imm) .imm))), r.2⟩]) }
def zAO.cfg (N : Nat) : Cfg := { ty := tys, keep := [], flt := [], elm := elm0, live := [], ord := [], con := [], loops := [], joins := [] }
theorem zAO.cons (N : Nat) : ConsOk Try.prog TB (zAO.cfg N).con := consOk_nil
theorem zAO.ls (N : Nat) : LoopsOk Try.prog TB (zAO.cfg N) (fnBody Try.f32) := loopsL (l := []) (by kernel_rfl) trivial
theorem zAO.b (N : Nat) (x0 : den s40) (x1 : den (.int .i64)) (x2 : den (.int .i64)) : body (zAO.cfg N) N Try.f32 [.one, .one, .one] [.io, .v, .v] [(false, .imm)] [⟨s40, (.pr .imm (.pr .imm (.pr (.own .imm) .imm))), x0⟩, ⟨(.int .i64), .imm, x1⟩, ⟨(.int .i64), .imm, x2⟩] (fun r i => some (r, i)) = bindO (zAO N x0 x1 x2) fun r => some ([⟨(.int .i64), .imm, r.1⟩], [⟨s40, (.pr .imm (.pr .imm (.pr (.own .imm) .imm))), r.2⟩]) := by
  show _ = bindF _ _
  conv => rhs; simp only [zAO, bindF_ifB, bindF_bindO, bindF_pure, bindF_none, bindF_onSum]
  kernel_rfl
theorem zAO.ok (N : Nat) : ConOk Try.prog TB 32 [.one, .one, .one] (zAO.con N) := ok3 (g := zAO.cfg N) (N := N) (res := [(false, .imm)]) tys_ok (zAO.cons N) mixed Try.func32 (zAO.ls N) rfl (zAO.b N)
theorem zAO.det (N : Nat) : ConDet (zAO.con N) := det3
def zAQ.con (N : Nat) : Con := { modes := [.v], ptrs := [false], fn := fn1 s24 .imm (zAQ N) (fun r => [⟨(.int .i64), .imm, r⟩]) (fun r => []) }
def zAQ.cfg (N : Nat) : Cfg := { ty := tys, keep := [], flt := [], elm := elm0, live := [], ord := [], con := [], loops := [], joins := [] }
theorem zAQ.cons (N : Nat) : ConsOk Try.prog TB (zAQ.cfg N).con := consOk_nil
theorem zAQ.ls (N : Nat) : LoopsOk Try.prog TB (zAQ.cfg N) (fnBody Try.f46) := loopsL (l := []) (by kernel_rfl) trivial
theorem zAQ.b (N : Nat) (x0 : den s24) : body (zAQ.cfg N) N Try.f46 [.one] [.v] [(false, .imm)] [⟨s24, .imm, x0⟩] (fun r i => some (r, i)) = bindO (zAQ N x0) fun r => some ([⟨(.int .i64), .imm, r⟩], []) := by
  show _ = bindF _ _
  conv => rhs; simp only [zAQ, bindF_ifB, bindF_bindO, bindF_pure, bindF_none, bindF_onSum]
  kernel_rfl
theorem zAQ.ok (N : Nat) : ConOk Try.prog TB 46 [.one] (zAQ.con N) := ok1 (g := zAQ.cfg N) (N := N) (res := [(false, .imm)]) tys_ok (zAQ.cons N) mixed Try.func46 (zAQ.ls N) rfl (zAQ.b N)
theorem zAQ.det (N : Nat) : ConDet (zAQ.con N) := det1
def zAT.con (N : Nat) : Con := { modes := [.rd], ptrs := [false], fn := fn1 s40 .imm (zAT N) (fun r => [⟨(.int .i64), .imm, r⟩]) (fun r => []) }
def zAT.cfg (N : Nat) : Cfg := { ty := tys, keep := [7], flt := [], elm := elm0, live := [], ord := [], con := [((46, [.one]), zAQ.con N)], loops := [], joins := [] }
theorem zAT.cons (N : Nat) : ConsOk Try.prog TB (zAT.cfg N).con := (consOk_cons (hb46) (zAQ.ok N) (zAQ.det N) consOk_nil)
theorem zAT.ls (N : Nat) : LoopsOk Try.prog TB (zAT.cfg N) (fnBody Try.f33) := loopsL (l := []) (by kernel_rfl) trivial
theorem zAT.b (N : Nat) (x0 : den s40) : body (zAT.cfg N) N Try.f33 [.one] [.rd] [(false, .imm)] [⟨s40, .imm, x0⟩] (fun r i => some (r, i)) = bindO (zAT N x0) fun r => some ([⟨(.int .i64), .imm, r⟩], []) := by
  show _ = bindF _ _
  conv => rhs; simp only [zAT, bindF_ifB, bindF_bindO, bindF_pure, bindF_none, bindF_onSum]
  kernel_rfl
theorem zAT.ok (N : Nat) : ConOk Try.prog TB 33 [.one] (zAT.con N) := ok1 (g := zAT.cfg N) (N := N) (res := [(false, .imm)]) tys_ok (zAT.cons N) mixed Try.func33 (zAT.ls N) rfl (zAT.b N)
theorem zAT.det (N : Nat) : ConDet (zAT.con N) := det1
def zAZ.con (N : Nat) : Con := { modes := [.v], ptrs := [false], fn := fn1 .str .imm (zAZ N) (fun r => [⟨(.int .i64), .imm, r⟩]) (fun r => []) }
def zAZ.cfg (N : Nat) : Cfg := { ty := tys, keep := [3, 5], flt := [], elm := elm0, live := [], ord := [], con := [((47, []), zB8.con N), ((34, [.one, .one]), zA1.con N)], loops := [], joins := [] }
theorem zAZ.cons (N : Nat) : ConsOk Try.prog TB (zAZ.cfg N).con := (consOk_cons (hb47) (zB8.ok N) (zB8.det N) (consOk_cons (hb34) (zA1.ok N) (zA1.det N) consOk_nil))
theorem zAZ.ls (N : Nat) : LoopsOk Try.prog TB (zAZ.cfg N) (fnBody Try.f35) := loopsL (l := []) (by kernel_rfl) trivial
theorem zAZ.b (N : Nat) (x0 : den .str) : body (zAZ.cfg N) N Try.f35 [.one] [.v] [(false, .imm)] [⟨.str, .imm, x0⟩] (fun r i => some (r, i)) = bindO (zAZ N x0) fun r => some ([⟨(.int .i64), .imm, r⟩], []) := by
  show _ = bindF _ _
  conv => rhs; simp only [zAZ, bindF_ifB, bindF_bindO, bindF_pure, bindF_none, bindF_onSum]
  kernel_rfl
theorem zAZ.ok (N : Nat) : ConOk Try.prog TB 35 [.one] (zAZ.con N) := ok1 (g := zAZ.cfg N) (N := N) (res := [(false, .imm)]) tys_ok (zAZ.cons N) mixed Try.func35 (zAZ.ls N) rfl (zAZ.b N)
theorem zAZ.det (N : Nat) : ConDet (zAZ.con N) := det1
def zB6.con (N : Nat) : Con := { modes := [.v], ptrs := [false], fn := fn1 (.int .i64) .imm (zB6 N) (fun r => [⟨(.int .i64), .imm, r⟩]) (fun r => []) }
def zB6.cfg (N : Nat) : Cfg := { ty := tys, keep := [], flt := [], elm := elm0, live := [], ord := [], con := [], loops := [], joins := [] }
theorem zB6.cons (N : Nat) : ConsOk Try.prog TB (zB6.cfg N).con := consOk_nil
theorem zB6.ls (N : Nat) : LoopsOk Try.prog TB (zB6.cfg N) (fnBody Try.f36) := loopsL (l := []) (by kernel_rfl) trivial
theorem zB6.b (N : Nat) (x0 : den (.int .i64)) : body (zB6.cfg N) N Try.f36 [.one] [.v] [(false, .imm)] [⟨(.int .i64), .imm, x0⟩] (fun r i => some (r, i)) = bindO (zB6 N x0) fun r => some ([⟨(.int .i64), .imm, r⟩], []) := by
  show _ = bindF _ _
  conv => rhs; simp only [zB6, bindF_ifB, bindF_bindO, bindF_pure, bindF_none, bindF_onSum]
  kernel_rfl
theorem zB6.ok (N : Nat) : ConOk Try.prog TB 36 [.one] (zB6.con N) := ok1 (g := zB6.cfg N) (N := N) (res := [(false, .imm)]) tys_ok (zB6.cons N) mixed Try.func36 (zB6.ls N) rfl (zB6.b N)
theorem zB6.det (N : Nat) : ConDet (zB6.con N) := det1
def zA3.sk25 : Skel := ⟨.ptr 0 [] :: (.pv (.int .i64) :: (dd 3 (.ptr 50 [] :: (dd 82 (.pv (.int .i64) :: (.pv (.int .i64) :: (dd 57 []))))))), [⟨0, s40, (.pr .imm (.pr .imm (.pr (.own .imm) .imm))), true, false⟩, ⟨50, s34, .imm, true, false⟩]⟩
def zA3.xs25 : List XS := [⟨.exit 1, [0, 1, 5], ⟨.ptr 0 [] :: (.pv (.int .i64) :: (dd 3 (.ptr 50 [] :: (dd 141 [])))), [⟨0, s40, (.pr .imm (.pr .imm (.pr (.own .imm) .imm))), true, false⟩, ⟨50, s34, .imm, true, false⟩]⟩⟩]
def zA3.con (N : Nat) : Con := { modes := [.io, .v], ptrs := [false], fn := fun ds k => match ds with | [d0, d1] => castDm s40 (.pr .imm (.pr .imm (.pr (.own .imm) .imm))) d0 fun x0 => castDm (.int .i64) .imm d1 fun x1 => bindO (zA3 N x0 x1) fun r => k [⟨(.int .i64), .imm, r.1⟩] [⟨s40, (.pr .imm (.pr .imm (.pr (.own .imm) .imm))), r.2⟩] | _ => none }
theorem zA3.det (N : Nat) : ConDet (zA3.con N) := by
  intro ds R k y h
  cases ds with
  | nil => exact none_some h
  | cons d0 ds =>
  cases ds with
  | nil => exact none_some h
  | cons d1 ds =>
  cases ds with
  | cons _ _ => exact none_some h
  | nil =>
  have h0 : (castDm s40 (.pr .imm (.pr .imm (.pr (.own .imm) .imm))) d0 fun x0 => castDm (.int .i64) .imm d1 fun x1 => bindO (zA3 N x0 x1) fun r => k [⟨(.int .i64), .imm, r.1⟩] [⟨s40, (.pr .imm (.pr .imm (.pr (.own .imm) .imm))), r.2⟩]) = some y := h
  clear h
  obtain ⟨x0, rfl, h1⟩ := castDm_eq h0
  obtain ⟨x1, rfl, h2⟩ := castDm_eq h1
  obtain ⟨r, e, h⟩ := bindO_some h2
  refine ⟨_, _, h, fun k' => ?_⟩
  show (castDm s40 (.pr .imm (.pr .imm (.pr (.own .imm) .imm))) (⟨s40, (.pr .imm (.pr .imm (.pr (.own .imm) .imm))), x0⟩ : Dy) fun x0 => castDm (.int .i64) .imm (⟨(.int .i64), .imm, x1⟩ : Dy) fun x1 => bindO (zA3 N x0 x1) fun r => k' [⟨(.int .i64), .imm, r.1⟩] [⟨s40, (.pr .imm (.pr .imm (.pr (.own .imm) .imm))), r.2⟩]) = _
  simp only [castDm_self]
  rw [e]
  rfl
def zA3.cfg (N : Nat) : Cfg := { ty := tys, keep := [21, 28, 30, 33, 38, 45, 50, 58, 65, 68, 70, 73, 76, 83, 93, 120, 121, 131, 132, 138, 144, 145, 99, 104, 108], flt := [], elm := elm0, live := [(25, [0, 1, 5, 88, 89])], ord := [(11, [0, 1, 2, 3, 4, 5, 6, 7, 8, 9]), (14, [0, 1, 2, 3, 4, 5, 6, 7, 8, 9]), (22, [0, 1, 2, 3, 4, 5, 6, 7, 8, 9]), (35, [0, 1, 2, 3, 4, 5, 6, 7, 8]), (37, [0, 1, 2, 3, 4, 5, 6, 7, 8])], con := [((32, [.one, .one, .one]), zAO.con N), ((19, [.one, .one]), zA3.con N), ((33, [.one]), zAT.con N), ((34, [.one, .one]), zA1.con N), ((35, [.one]), zAZ.con N), ((36, [.one]), zB6.con N)], loops := [(25, loopCon N zA3.sk25 zA3.xs25 (fun {R} => zA3.l25 (R := R) N (zA3 N)))], joins := [] }
theorem zA3.cons (N : Nat) (h : ConOk Try.prog TB 19 [.one, .one] (zA3.con N)) : ConsOk Try.prog TB (zA3.cfg N).con := (consOk_cons (hb32) (zAO.ok N) (zAO.det N) (consOk_cons (hb19) h (zA3.det N) (consOk_cons (hb33) (zAT.ok N) (zAT.det N) (consOk_cons (hb34) (zA1.ok N) (zA1.det N) (consOk_cons (hb35) (zAZ.ok N) (zAZ.det N) (consOk_cons (hb36) (zB6.ok N) (zB6.det N) consOk_nil))))))
theorem zA3.h25 {R : Type} (N : Nat) (d : zA3.sk25.D) (kn : zA3.sk25.D → Option R) (kx : XD zA3.xs25 → Option R) : roundK (zA3.cfg N) N (nthLoop (fnBody Try.f19) 0) zA3.sk25 zA3.xs25 d kn kx = zA3.l25 N (zA3 N) d kn kx := by kernel_rfl
theorem zA3.i25 (N : Nat) (h : ConOk Try.prog TB 19 [.one, .one] (zA3.con N)) : LoopsOk Try.prog TB (zA3.cfg N) (nthLoop (fnBody Try.f19) 0) := loopsL (l := []) (by kernel_rfl) trivial
theorem zA3.o25 (N : Nat) (h : ConOk Try.prog TB 19 [.one, .one] (zA3.con N)) : LoopOk Try.prog TB (nthLoop (fnBody Try.f19) 0) (loopCon N zA3.sk25 zA3.xs25 (fun {R} => zA3.l25 (R := R) N (zA3 N))) := loop_ok (g := zA3.cfg N) tys_ok (zA3.cons N h) mixed (zA3.i25 N h) (fun d kn kx => zA3.h25 N d kn kx)
theorem zA3.ls (N : Nat) (h : ConOk Try.prog TB 19 [.one, .one] (zA3.con N)) : LoopsOk Try.prog TB (zA3.cfg N) (fnBody Try.f19) := loopsL (l := [nthLoop (fnBody Try.f19) 0]) (by kernel_rfl) ⟨loopOne (L0 := loopCon N zA3.sk25 zA3.xs25 (fun {R} => zA3.l25 (R := R) N (zA3 N))) (id := 25) (by kernel_rfl) (by kernel_rfl) (zA3.o25 N h), trivial⟩
theorem zA3.q25 {R R' : Type} {N n : Nat} {rc} {d} {k} {g : R → Option R'} : bindF (loopP (zA3.l25 N rc) n d k) g = loopP (zA3.l25 N rc) n d fun e => bindF (k e) g := bindF_loopP (fun d kn kx => by simp only [zA3.l25, bindF_ifB, bindF_bindO, bindF_pure, bindF_none, bindF_onSum]) n d k
theorem zA3.b (N : Nat) (x0 : den s40) (x1 : den (.int .i64)) : body (zA3.cfg N) N Try.f19 [.one, .one] [.io, .v] [(false, .imm)] [⟨s40, (.pr .imm (.pr .imm (.pr (.own .imm) .imm))), x0⟩, ⟨(.int .i64), .imm, x1⟩] (fun r i => some (r, i)) = bindO (zA3.st N (zA3 N) x0 x1) fun r => some ([⟨(.int .i64), .imm, r.1⟩], [⟨s40, (.pr .imm (.pr .imm (.pr (.own .imm) .imm))), r.2⟩]) := by
  show _ = bindF _ _
  conv => rhs; simp only [zA3.st, bindF_ifB, bindF_bindO, bindF_pure, bindF_none, bindF_onSum, zA3.q25]
  kernel_rfl
theorem zA3.ok0 : ConOk Try.prog TB 19 [.one, .one] (zA3.con 0) := by
  refine ⟨fun _ => ?_, fun b h => by cases h⟩
  intro w m H vs fl ds _ hp ha hc hH hD R k y h
  cases ds with
  | nil => exact none_some h
  | cons d0 ds =>
  cases ds with
  | nil => exact none_some h
  | cons d1 ds =>
  cases ds with
  | cons _ _ => exact none_some h
  | nil =>
  have h0 : (castDm s40 (.pr .imm (.pr .imm (.pr (.own .imm) .imm))) d0 fun x0 => castDm (.int .i64) .imm d1 fun x1 => bindO (zA3 0 x0 x1) fun r => k [⟨(.int .i64), .imm, r.1⟩] [⟨s40, (.pr .imm (.pr .imm (.pr (.own .imm) .imm))), r.2⟩]) = some y := h
  clear h
  obtain ⟨x0, rfl, h1⟩ := castDm_eq h0
  obtain ⟨x1, rfl, h2⟩ := castDm_eq h1
  exact none_some h2
theorem zA3.okS (N : Nat) (h : ConOk Try.prog TB 19 [.one, .one] (zA3.con N)) : ConOk Try.prog TB 19 [.one, .one] (zA3.con (N + 1)) := by
  refine conOk_mk (g := zA3.cfg N) (N := N) (res := [(false, .imm)]) tys_ok (zA3.cons N h) mixed Try.func19 (zA3.ls N h) rfl rfl rfl ?_
  intro ds R k y h
  cases ds with
  | nil => exact none_some h
  | cons d0 ds =>
  cases ds with
  | nil => exact none_some h
  | cons d1 ds =>
  cases ds with
  | cons _ _ => exact none_some h
  | nil =>
  have h0 : (castDm s40 (.pr .imm (.pr .imm (.pr (.own .imm) .imm))) d0 fun x0 => castDm (.int .i64) .imm d1 fun x1 => bindO (zA3.st N (zA3 N) x0 x1) fun r => k [⟨(.int .i64), .imm, r.1⟩] [⟨s40, (.pr .imm (.pr .imm (.pr (.own .imm) .imm))), r.2⟩]) = some y := h
  clear h
  obtain ⟨x0, rfl, h1⟩ := castDm_eq h0
  obtain ⟨x1, rfl, h2⟩ := castDm_eq h1
  exact con_fin (zA3.b N x0 x1) h2
theorem zA3.okA : ∀ N : Nat, ConOk Try.prog TB 19 [.one, .one] (zA3.con N)
| 0 => zA3.ok0
| N + 1 => zA3.okS N (zA3.okA N)
theorem zA3.ok (N : Nat) : ConOk Try.prog TB 19 [.one, .one] (zA3.con N) := (zA3.okA N)
def zB9.con (N : Nat) : Con := { modes := [.v], ptrs := [false], fn := fn1 s26 .imm (zB9 N) (fun r => [⟨s24, (.own .imm), r⟩]) (fun r => []) }
def zB9.cfg (N : Nat) : Cfg := { ty := tys, keep := [], flt := [], elm := elm0, live := [], ord := [], con := [((18, [.one]), zBB.con N), ((19, [.one, .one]), zA3.con N)], loops := [], joins := [] }
theorem zB9.cons (N : Nat) : ConsOk Try.prog TB (zB9.cfg N).con := (consOk_cons (hb18) (zBB.ok N) (zBB.det N) (consOk_cons (hb19) (zA3.ok N) (zA3.det N) consOk_nil))
theorem zB9.ls (N : Nat) : LoopsOk Try.prog TB (zB9.cfg N) (fnBody Try.f7) := loopsL (l := []) (by kernel_rfl) trivial
theorem zB9.b (N : Nat) (x0 : den s26) : body (zB9.cfg N) N Try.f7 [.one] [.v] [(false, (.own .imm))] [⟨s26, .imm, x0⟩] (fun r i => some (r, i)) = bindO (zB9 N x0) fun r => some ([⟨s24, (.own .imm), r⟩], []) := by
  show _ = bindF _ _
  conv => rhs; simp only [zB9, bindF_ifB, bindF_bindO, bindF_pure, bindF_none, bindF_onSum]
  kernel_rfl
theorem zB9.ok (N : Nat) : ConOk Try.prog TB 7 [.one] (zB9.con N) := ok1 (g := zB9.cfg N) (N := N) (res := [(false, (.own .imm))]) tys_ok (zB9.cons N) mixed Try.func7 (zB9.ls N) rfl (zB9.b N)
theorem zB9.det (N : Nat) : ConDet (zB9.con N) := det1
def zBH.con (N : Nat) : Con := { modes := [.v, .v], ptrs := [false], fn := fn2 s51 .imm s51 .imm (zBH N) (fun r => [⟨.bool, .imm, r⟩]) (fun r => []) }
def zBH.cfg (N : Nat) : Cfg := { ty := tys, keep := [], flt := [], elm := elm0, live := [], ord := [], con := [], loops := [], joins := [] }
theorem zBH.cons (N : Nat) : ConsOk Try.prog TB (zBH.cfg N).con := consOk_nil
theorem zBH.ls (N : Nat) : LoopsOk Try.prog TB (zBH.cfg N) (fnBody Try.f20) := loopsL (l := []) (by kernel_rfl) trivial
theorem zBH.b (N : Nat) (x0 : den s51) (x1 : den s51) : body (zBH.cfg N) N Try.f20 [.one, .one] [.v, .v] [(false, .imm)] [⟨s51, .imm, x0⟩, ⟨s51, .imm, x1⟩] (fun r i => some (r, i)) = bindO (zBH N x0 x1) fun r => some ([⟨.bool, .imm, r⟩], []) := by
  show _ = bindF _ _
  conv => rhs; simp only [zBH, bindF_ifB, bindF_bindO, bindF_pure, bindF_none, bindF_onSum]
  kernel_rfl
theorem zBH.ok (N : Nat) : ConOk Try.prog TB 20 [.one, .one] (zBH.con N) := ok2 (g := zBH.cfg N) (N := N) (res := [(false, .imm)]) tys_ok (zBH.cons N) mixed Try.func20 (zBH.ls N) rfl (zBH.b N)
theorem zBH.det (N : Nat) : ConDet (zBH.con N) := det2
def zAM.sk4 : Skel := ⟨.pv s24 :: (.pv s24 :: (dd 3 (.pv (.int .i64) :: (dd 21 [])))), []⟩
def zAM.xs4 : List XS := [⟨.exit 0, [], ⟨dd 27 [], []⟩⟩, ⟨.ret, [4], ⟨dd 4 (.pv .bool :: (dd 22 [])), []⟩⟩]
def zAM.con (N : Nat) : Con := { modes := [.v, .v], ptrs := [false], fn := fn2 s24 .imm s24 .imm (zAM N) (fun r => [⟨.bool, .imm, r⟩]) (fun r => []) }
def zAM.cfg (N : Nat) : Cfg := { ty := tys, keep := [25], flt := [], elm := elm0, live := [(4, [0, 1, 5])], ord := [(6, [0, 1, 2, 3, 4, 5, 6, 7, 8, 9])], con := [((20, [.one, .one]), zBH.con N)], loops := [(4, loopCon N zAM.sk4 zAM.xs4 (fun {R} => zAM.l4 (R := R) N))], joins := [] }
theorem zAM.cons (N : Nat) : ConsOk Try.prog TB (zAM.cfg N).con := (consOk_cons (hb20) (zBH.ok N) (zBH.det N) consOk_nil)
theorem zAM.h4 {R : Type} (N : Nat) (d : zAM.sk4.D) (kn : zAM.sk4.D → Option R) (kx : XD zAM.xs4 → Option R) : roundK (zAM.cfg N) N (nthLoop (fnBody Try.f8) 0) zAM.sk4 zAM.xs4 d kn kx = zAM.l4 N d kn kx := by kernel_rfl
theorem zAM.i4 (N : Nat) : LoopsOk Try.prog TB (zAM.cfg N) (nthLoop (fnBody Try.f8) 0) := loopsL (l := []) (by kernel_rfl) trivial
theorem zAM.o4 (N : Nat) : LoopOk Try.prog TB (nthLoop (fnBody Try.f8) 0) (loopCon N zAM.sk4 zAM.xs4 (fun {R} => zAM.l4 (R := R) N)) := loop_ok (g := zAM.cfg N) tys_ok (zAM.cons N) mixed (zAM.i4 N) (fun d kn kx => zAM.h4 N d kn kx)
theorem zAM.ls (N : Nat) : LoopsOk Try.prog TB (zAM.cfg N) (fnBody Try.f8) := loopsL (l := [nthLoop (fnBody Try.f8) 0]) (by kernel_rfl) ⟨loopOne (L0 := loopCon N zAM.sk4 zAM.xs4 (fun {R} => zAM.l4 (R := R) N)) (id := 4) (by kernel_rfl) (by kernel_rfl) (zAM.o4 N), trivial⟩
theorem zAM.q4 {R R' : Type} {N n : Nat} {d} {k} {g : R → Option R'} : bindF (loopP (zAM.l4 N) n d k) g = loopP (zAM.l4 N) n d fun e => bindF (k e) g := bindF_loopP (fun d kn kx => by simp only [zAM.l4, bindF_ifB, bindF_bindO, bindF_pure, bindF_none, bindF_onSum]) n d k
theorem zAM.b (N : Nat) (x0 : den s24) (x1 : den s24) : body (zAM.cfg N) N Try.f8 [.one, .one] [.v, .v] [(false, .imm)] [⟨s24, .imm, x0⟩, ⟨s24, .imm, x1⟩] (fun r i => some (r, i)) = bindO (zAM N x0 x1) fun r => some ([⟨.bool, .imm, r⟩], []) := by
  show _ = bindF _ _
  conv => rhs; simp only [zAM, bindF_ifB, bindF_bindO, bindF_pure, bindF_none, bindF_onSum, zAM.q4]
  kernel_rfl
theorem zAM.ok (N : Nat) : ConOk Try.prog TB 8 [.one, .one] (zAM.con N) := ok2 (g := zAM.cfg N) (N := N) (res := [(false, .imm)]) tys_ok (zAM.cons N) mixed Try.func8 (zAM.ls N) rfl (zAM.b N)
theorem zAM.det (N : Nat) : ConDet (zAM.con N) := det2
def zBC.con (N : Nat) : Con := { modes := [.v, .v], ptrs := [false], fn := fn2 s34 .imm s34 .imm (zBC N) (fun r => [⟨.bool, .imm, r⟩]) (fun r => []) }
def zBC.cfg (N : Nat) : Cfg := { ty := tys, keep := [], flt := [], elm := elm0, live := [], ord := [], con := [], loops := [], joins := [] }
theorem zBC.cons (N : Nat) : ConsOk Try.prog TB (zBC.cfg N).con := consOk_nil
theorem zBC.ls (N : Nat) : LoopsOk Try.prog TB (zBC.cfg N) (fnBody Try.f21) := loopsL (l := []) (by kernel_rfl) trivial
theorem zBC.b (N : Nat) (x0 : den s34) (x1 : den s34) : body (zBC.cfg N) N Try.f21 [.one, .one] [.v, .v] [(false, .imm)] [⟨s34, .imm, x0⟩, ⟨s34, .imm, x1⟩] (fun r i => some (r, i)) = bindO (zBC N x0 x1) fun r => some ([⟨.bool, .imm, r⟩], []) := by
  show _ = bindF _ _
  conv => rhs; simp only [zBC, bindF_ifB, bindF_bindO, bindF_pure, bindF_none, bindF_onSum]
  kernel_rfl
theorem zBC.ok (N : Nat) : ConOk Try.prog TB 21 [.one, .one] (zBC.con N) := ok2 (g := zBC.cfg N) (N := N) (res := [(false, .imm)]) tys_ok (zBC.cons N) mixed Try.func21 (zBC.ls N) rfl (zBC.b N)
theorem zBC.det (N : Nat) : ConDet (zBC.con N) := det2
def zAJ.sk4 : Skel := ⟨.pv s26 :: (.pv s26 :: (dd 3 (.pv (.int .i64) :: (dd 21 [])))), []⟩
def zAJ.xs4 : List XS := [⟨.exit 0, [], ⟨dd 27 [], []⟩⟩, ⟨.ret, [4], ⟨dd 4 (.pv .bool :: (dd 22 [])), []⟩⟩]
def zAJ.con (N : Nat) : Con := { modes := [.v, .v], ptrs := [false], fn := fn2 s26 .imm s26 .imm (zAJ N) (fun r => [⟨.bool, .imm, r⟩]) (fun r => []) }
def zAJ.cfg (N : Nat) : Cfg := { ty := tys, keep := [25], flt := [], elm := elm0, live := [(4, [0, 1, 5])], ord := [(6, [0, 1, 2, 3, 4, 5, 6, 7, 8, 9])], con := [((21, [.one, .one]), zBC.con N)], loops := [(4, loopCon N zAJ.sk4 zAJ.xs4 (fun {R} => zAJ.l4 (R := R) N))], joins := [] }
theorem zAJ.cons (N : Nat) : ConsOk Try.prog TB (zAJ.cfg N).con := (consOk_cons (hb21) (zBC.ok N) (zBC.det N) consOk_nil)
theorem zAJ.h4 {R : Type} (N : Nat) (d : zAJ.sk4.D) (kn : zAJ.sk4.D → Option R) (kx : XD zAJ.xs4 → Option R) : roundK (zAJ.cfg N) N (nthLoop (fnBody Try.f9) 0) zAJ.sk4 zAJ.xs4 d kn kx = zAJ.l4 N d kn kx := by kernel_rfl
theorem zAJ.i4 (N : Nat) : LoopsOk Try.prog TB (zAJ.cfg N) (nthLoop (fnBody Try.f9) 0) := loopsL (l := []) (by kernel_rfl) trivial
theorem zAJ.o4 (N : Nat) : LoopOk Try.prog TB (nthLoop (fnBody Try.f9) 0) (loopCon N zAJ.sk4 zAJ.xs4 (fun {R} => zAJ.l4 (R := R) N)) := loop_ok (g := zAJ.cfg N) tys_ok (zAJ.cons N) mixed (zAJ.i4 N) (fun d kn kx => zAJ.h4 N d kn kx)
theorem zAJ.ls (N : Nat) : LoopsOk Try.prog TB (zAJ.cfg N) (fnBody Try.f9) := loopsL (l := [nthLoop (fnBody Try.f9) 0]) (by kernel_rfl) ⟨loopOne (L0 := loopCon N zAJ.sk4 zAJ.xs4 (fun {R} => zAJ.l4 (R := R) N)) (id := 4) (by kernel_rfl) (by kernel_rfl) (zAJ.o4 N), trivial⟩
theorem zAJ.q4 {R R' : Type} {N n : Nat} {d} {k} {g : R → Option R'} : bindF (loopP (zAJ.l4 N) n d k) g = loopP (zAJ.l4 N) n d fun e => bindF (k e) g := bindF_loopP (fun d kn kx => by simp only [zAJ.l4, bindF_ifB, bindF_bindO, bindF_pure, bindF_none, bindF_onSum]) n d k
theorem zAJ.b (N : Nat) (x0 : den s26) (x1 : den s26) : body (zAJ.cfg N) N Try.f9 [.one, .one] [.v, .v] [(false, .imm)] [⟨s26, .imm, x0⟩, ⟨s26, .imm, x1⟩] (fun r i => some (r, i)) = bindO (zAJ N x0 x1) fun r => some ([⟨.bool, .imm, r⟩], []) := by
  show _ = bindF _ _
  conv => rhs; simp only [zAJ, bindF_ifB, bindF_bindO, bindF_pure, bindF_none, bindF_onSum, zAJ.q4]
  kernel_rfl
theorem zAJ.ok (N : Nat) : ConOk Try.prog TB 9 [.one, .one] (zAJ.con N) := ok2 (g := zAJ.cfg N) (N := N) (res := [(false, .imm)]) tys_ok (zAJ.cons N) mixed Try.func9 (zAJ.ls N) rfl (zAJ.b N)
theorem zAJ.det (N : Nat) : ConDet (zAJ.con N) := det2
end Go.AE.F
end
