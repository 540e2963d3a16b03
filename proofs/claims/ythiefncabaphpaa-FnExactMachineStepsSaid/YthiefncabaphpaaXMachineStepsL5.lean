/- The printed functions are what the program comes to: contracts. -/
import Derived.Test.YthiefncabaphpaaXMachineStepsL4
noncomputable section
namespace Go.AE.F
open Go.AE Go.Proofs
set_option maxRecDepth 100000
def impl_BufRight.con (N : Nat) : Con := { modes := [.v], ptrs := [false], fn := fn1 s24 .imm (impl_BufRight N) (fun r => [⟨.bool, .imm, r⟩]) (fun r => []) }
def impl_BufRight.cfg (N : Nat) : Cfg := { ty := tys, keep := [5, 9, 14], flt := [], elm := elm0, live := [], ord := [], con := [((46, [.one]), impl_PointsRight.con N), ((47, [.one, .one]), impl_Buf_isPlace.con N)], loops := [], joins := [] }
theorem impl_BufRight.cons (N : Nat) : ConsOk Try.prog (impl_BufRight.cfg N).con := (consOk_cons (hb46) (impl_PointsRight.ok N) (impl_PointsRight.det N) (consOk_cons (hb47) (impl_Buf_isPlace.ok N) (impl_Buf_isPlace.det N) consOk_nil))
theorem impl_BufRight.ls (N : Nat) : LoopsOk Try.prog (impl_BufRight.cfg N) (fnBody Try.f32) := loopsL (l := []) (by kernel_rfl) trivial
theorem impl_BufRight.b (N : Nat) (x0 : den s24) : body (impl_BufRight.cfg N) N Try.f32 [.one] [.v] [(false, .imm)] [⟨s24, .imm, x0⟩] (fun r i => some (r, i)) = bindO (impl_BufRight N x0) fun r => some ([⟨.bool, .imm, r⟩], []) := by
  show _ = bindF _ _
  conv => rhs; simp only [impl_BufRight, bindF_ifB, bindF_bindO, bindF_pure, bindF_none, bindF_onSum]
  kernel_rfl
theorem impl_BufRight.ok (N : Nat) : ConOk Try.prog 32 [.one] (impl_BufRight.con N) := ok1 (g := impl_BufRight.cfg N) (N := N) (res := [(false, .imm)]) tys_ok (impl_BufRight.cons N) mixed Try.func32 (impl_BufRight.ls N) rfl (impl_BufRight.b N)
theorem impl_BufRight.det (N : Nat) : ConDet (impl_BufRight.con N) := det1
def slices_Clone_Sint64_int64.con (N : Nat) : Con := { modes := [.v], ptrs := [false], fn := fun ds k => match ds with | [d0] => castDm s23 .imm d0 fun x0 => bindO (slices_Clone_Sint64_int64 N x0) fun r => k [⟨s23, (.own .imm), r⟩] [] | _ => none }
def slices_Clone_Sint64_int64.cfg (N : Nat) : Cfg := { ty := tys, keep := [], flt := [], elm := elm0, live := [], ord := [], con := [], loops := [], joins := [] }
theorem slices_Clone_Sint64_int64.cons (N : Nat) : ConsOk Try.prog (slices_Clone_Sint64_int64.cfg N).con := consOk_nil
theorem slices_Clone_Sint64_int64.ls (N : Nat) : LoopsOk Try.prog (slices_Clone_Sint64_int64.cfg N) (fnBody Try.f48) := loopsL (l := []) (by kernel_rfl) trivial
theorem slices_Clone_Sint64_int64.pu {R : Type} (N : Nat) (x0 : den s23) (f : _ → Option R) : Psh (slices_Clone_Sint64_int64 N x0) (slices_Clone_Sint64_int64.g N x0 f) f := by
  unfold slices_Clone_Sint64_int64 slices_Clone_Sint64_int64.g
  repeat' (first | exact psh_pure | exact psh_none | refine psh_ifB ?_ ?_ | refine psh_same ?_ ?_ | refine psh_bindO fun _ => ?_)
theorem slices_Clone_Sint64_int64.b (N : Nat) (x0 : den s23) : body (slices_Clone_Sint64_int64.cfg N) N Try.f48 [.one] [.v] [(false, (.own .imm))] [⟨s23, .imm, x0⟩] (fun r i => some (r, i)) = slices_Clone_Sint64_int64.g N x0 fun r => some ([⟨s23, (.own .imm), r⟩], []) := by kernel_rfl
theorem slices_Clone_Sint64_int64.ok (N : Nat) : ConOk Try.prog 48 [.one] (slices_Clone_Sint64_int64.con N) := by
  refine conOk_mk (g := slices_Clone_Sint64_int64.cfg N) (N := N) (res := [(false, (.own .imm))]) tys_ok (slices_Clone_Sint64_int64.cons N) mixed Try.func48 (slices_Clone_Sint64_int64.ls N) rfl rfl ?_
  intro ds R k y h
  cases ds with
  | nil => exact none_some h
  | cons d0 ds =>
  cases ds with
  | cons _ _ => exact none_some h
  | nil =>
  have h0 : (castDm s23 .imm d0 fun x0 => bindO (slices_Clone_Sint64_int64 N x0) fun r => k [⟨s23, (.own .imm), r⟩] []) = some y := h
  clear h
  obtain ⟨x0, rfl, h1⟩ := castDm_eq h0
  exact con_fin' (slices_Clone_Sint64_int64.b N x0) (slices_Clone_Sint64_int64.pu N x0 _) h1
theorem slices_Clone_Sint64_int64.det (N : Nat) : ConDet (slices_Clone_Sint64_int64.con N) := by
  intro ds R k y h
  cases ds with
  | nil => exact none_some h
  | cons d0 ds =>
  cases ds with
  | cons _ _ => exact none_some h
  | nil =>
  have h0 : (castDm s23 .imm d0 fun x0 => bindO (slices_Clone_Sint64_int64 N x0) fun r => k [⟨s23, (.own .imm), r⟩] []) = some y := h
  clear h
  obtain ⟨x0, rfl, h1⟩ := castDm_eq h0
  obtain ⟨r, e, h⟩ := bindO_some h1
  refine ⟨_, _, h, fun k' => ?_⟩
  show (castDm s23 .imm (⟨s23, .imm, x0⟩ : Dy) fun x0 => bindO (slices_Clone_Sint64_int64 N x0) fun r => k' [⟨s23, (.own .imm), r⟩] []) = _
  simp only [castDm_self]
  rw [e]
  rfl
def impl_ownBuf.con (N : Nat) : Con := { modes := [.v], ptrs := [false], fn := fn1 s24 .imm (impl_ownBuf N) (fun r => [⟨s24, (.pr (.own .imm) .imm), r⟩]) (fun r => []) }
def impl_ownBuf.cfg (N : Nat) : Cfg := { ty := tys, keep := [5], flt := [], elm := elm0, live := [], ord := [(1, [0, 1, 3, 4, 5, 6, 2, 7, 8])], con := [((48, [.one]), slices_Clone_Sint64_int64.con N)], loops := [], joins := [] }
theorem impl_ownBuf.cons (N : Nat) : ConsOk Try.prog (impl_ownBuf.cfg N).con := (consOk_cons (hb48) (slices_Clone_Sint64_int64.ok N) (slices_Clone_Sint64_int64.det N) consOk_nil)
theorem impl_ownBuf.ls (N : Nat) : LoopsOk Try.prog (impl_ownBuf.cfg N) (fnBody Try.f34) := loopsL (l := []) (by kernel_rfl) trivial
theorem impl_ownBuf.b (N : Nat) (x0 : den s24) : body (impl_ownBuf.cfg N) N Try.f34 [.one] [.v] [(false, (.pr (.own .imm) .imm))] [⟨s24, .imm, x0⟩] (fun r i => some (r, i)) = bindO (impl_ownBuf N x0) fun r => some ([⟨s24, (.pr (.own .imm) .imm), r⟩], []) := by
  show _ = bindF _ _
  conv => rhs; simp only [impl_ownBuf, bindF_ifB, bindF_bindO, bindF_pure, bindF_none, bindF_onSum]
  kernel_rfl
theorem impl_ownBuf.ok (N : Nat) : ConOk Try.prog 34 [.one] (impl_ownBuf.con N) := ok1 (g := impl_ownBuf.cfg N) (N := N) (res := [(false, (.pr (.own .imm) .imm))]) tys_ok (impl_ownBuf.cons N) mixed Try.func34 (impl_ownBuf.ls N) rfl (impl_ownBuf.b N)
theorem impl_ownBuf.det (N : Nat) : ConDet (impl_ownBuf.con N) := det1
def impl_machine_pop.con (N : Nat) : Con := { modes := [.io], ptrs := [false], fn := fn1 s73 (.pr .imm (.pr (.own .imm) .imm)) (impl_machine_pop N) (fun r => [⟨(.int .i64), .imm, r.1⟩]) (fun r => [⟨s73, (.pr .imm (.pr (.own .imm) .imm)), r.2⟩]) }
def impl_machine_pop.cfg (N : Nat) : Cfg := { ty := tys, keep := [], flt := [], elm := elm0, live := [], ord := [], con := [], loops := [], joins := [] }
theorem impl_machine_pop.cons (N : Nat) : ConsOk Try.prog (impl_machine_pop.cfg N).con := consOk_nil
theorem impl_machine_pop.ls (N : Nat) : LoopsOk Try.prog (impl_machine_pop.cfg N) (fnBody Try.f50) := loopsL (l := []) (by kernel_rfl) trivial
theorem impl_machine_pop.b (N : Nat) (x0 : den s73) : body (impl_machine_pop.cfg N) N Try.f50 [.one] [.io] [(false, .imm)] [⟨s73, (.pr .imm (.pr (.own .imm) .imm)), x0⟩] (fun r i => some (r, i)) = bindO (impl_machine_pop N x0) fun r => some ([⟨(.int .i64), .imm, r.1⟩], [⟨s73, (.pr .imm (.pr (.own .imm) .imm)), r.2⟩]) := by
  show _ = bindF _ _
  conv => rhs; simp only [impl_machine_pop, bindF_ifB, bindF_bindO, bindF_pure, bindF_none, bindF_onSum]
  kernel_rfl
theorem impl_machine_pop.ok (N : Nat) : ConOk Try.prog 50 [.one] (impl_machine_pop.con N) := ok1 (g := impl_machine_pop.cfg N) (N := N) (res := [(false, .imm)]) tys_ok (impl_machine_pop.cons N) mixed Try.func50 (impl_machine_pop.ls N) rfl (impl_machine_pop.b N)
theorem impl_machine_pop.det (N : Nat) : ConDet (impl_machine_pop.con N) := det1
def impl_scene_tick.con (N : Nat) : Con := { modes := [.io], ptrs := [false], fn := fn1 s39 .imm (impl_scene_tick N) (fun r => [⟨.bool, .imm, r.1⟩]) (fun r => [⟨s39, .imm, r.2⟩]) }
def impl_scene_tick.cfg (N : Nat) : Cfg := { ty := tys, keep := [], flt := [], elm := elm0, live := [], ord := [], con := [], loops := [], joins := [] }
theorem impl_scene_tick.cons (N : Nat) : ConsOk Try.prog (impl_scene_tick.cfg N).con := consOk_nil
theorem impl_scene_tick.ls (N : Nat) : LoopsOk Try.prog (impl_scene_tick.cfg N) (fnBody Try.f51) := loopsL (l := []) (by kernel_rfl) trivial
theorem impl_scene_tick.b (N : Nat) (x0 : den s39) : body (impl_scene_tick.cfg N) N Try.f51 [.one] [.io] [(false, .imm)] [⟨s39, .imm, x0⟩] (fun r i => some (r, i)) = bindO (impl_scene_tick N x0) fun r => some ([⟨.bool, .imm, r.1⟩], [⟨s39, .imm, r.2⟩]) := by
  show _ = bindF _ _
  conv => rhs; simp only [impl_scene_tick, bindF_ifB, bindF_bindO, bindF_pure, bindF_none, bindF_onSum]
  kernel_rfl
theorem impl_scene_tick.ok (N : Nat) : ConOk Try.prog 51 [.one] (impl_scene_tick.con N) := ok1 (g := impl_scene_tick.cfg N) (N := N) (res := [(false, .imm)]) tys_ok (impl_scene_tick.cons N) mixed Try.func51 (impl_scene_tick.ls N) rfl (impl_scene_tick.b N)
theorem impl_scene_tick.det (N : Nat) : ConDet (impl_scene_tick.con N) := det1
def impl_machine_push.con (N : Nat) : Con := { modes := [.io, .v], ptrs := [], fn := fn2 s73 (.pr .imm (.pr (.own .imm) .imm)) (.int .i64) .imm (impl_machine_push N) (fun r => []) (fun r => [⟨s73, (.pr .imm (.pr (.own .imm) .imm)), r⟩]) }
def impl_machine_push.cfg (N : Nat) : Cfg := { ty := tys, keep := [], flt := [], elm := elm0, live := [], ord := [], con := [], loops := [], joins := [] }
theorem impl_machine_push.cons (N : Nat) : ConsOk Try.prog (impl_machine_push.cfg N).con := consOk_nil
theorem impl_machine_push.ls (N : Nat) : LoopsOk Try.prog (impl_machine_push.cfg N) (fnBody Try.f52) := loopsL (l := []) (by kernel_rfl) trivial
theorem impl_machine_push.b (N : Nat) (x0 : den s73) (x1 : den (.int .i64)) : body (impl_machine_push.cfg N) N Try.f52 [.one, .one] [.io, .v] [] [⟨s73, (.pr .imm (.pr (.own .imm) .imm)), x0⟩, ⟨(.int .i64), .imm, x1⟩] (fun r i => some (r, i)) = bindO (impl_machine_push N x0 x1) fun r => some ([], [⟨s73, (.pr .imm (.pr (.own .imm) .imm)), r⟩]) := by
  show _ = bindF _ _
  conv => rhs; simp only [impl_machine_push, bindF_ifB, bindF_bindO, bindF_pure, bindF_none, bindF_onSum]
  kernel_rfl
theorem impl_machine_push.ok (N : Nat) : ConOk Try.prog 52 [.one, .one] (impl_machine_push.con N) := ok2 (g := impl_machine_push.cfg N) (N := N) (res := []) tys_ok (impl_machine_push.cons N) mixed Try.func52 (impl_machine_push.ls N) rfl (impl_machine_push.b N)
theorem impl_machine_push.det (N : Nat) : ConDet (impl_machine_push.con N) := det2
def impl_scene_at.con (N : Nat) : Con := { modes := [.io, .v], ptrs := [false], fn := fn2 s39 .imm (.int .i64) .imm (impl_scene_at N) (fun r => [⟨(.int .i64), .imm, r.1⟩]) (fun r => [⟨s39, .imm, r.2⟩]) }
def impl_scene_at.cfg (N : Nat) : Cfg := { ty := tys, keep := [11, 13], flt := [], elm := elm0, live := [], ord := [], con := [((53, [.one]), impl_size_Sint64.con N), ((33, [.one, .one, .one]), impl_within.con N)], loops := [], joins := [] }
theorem impl_scene_at.cons (N : Nat) : ConsOk Try.prog (impl_scene_at.cfg N).con := (consOk_cons (hb53) (impl_size_Sint64.ok N) (impl_size_Sint64.det N) (consOk_cons (hb33) (impl_within.ok N) (impl_within.det N) consOk_nil))
theorem impl_scene_at.ls (N : Nat) : LoopsOk Try.prog (impl_scene_at.cfg N) (fnBody Try.f54) := loopsL (l := []) (by kernel_rfl) trivial
theorem impl_scene_at.b (N : Nat) (x0 : den s39) (x1 : den (.int .i64)) : body (impl_scene_at.cfg N) N Try.f54 [.one, .one] [.io, .v] [(false, .imm)] [⟨s39, .imm, x0⟩, ⟨(.int .i64), .imm, x1⟩] (fun r i => some (r, i)) = bindO (impl_scene_at N x0 x1) fun r => some ([⟨(.int .i64), .imm, r.1⟩], [⟨s39, .imm, r.2⟩]) := by
  show _ = bindF _ _
  conv => rhs; simp only [impl_scene_at, bindF_ifB, bindF_bindO, bindF_pure, bindF_none, bindF_onSum]
  kernel_rfl
theorem impl_scene_at.ok (N : Nat) : ConOk Try.prog 54 [.one, .one] (impl_scene_at.con N) := ok2 (g := impl_scene_at.cfg N) (N := N) (res := [(false, .imm)]) tys_ok (impl_scene_at.cons N) mixed Try.func54 (impl_scene_at.ls N) rfl (impl_scene_at.b N)
theorem impl_scene_at.det (N : Nat) : ConDet (impl_scene_at.con N) := det2
def impl_one.con (N : Nat) : Con := { modes := [.v], ptrs := [false], fn := fn1 .bool .imm (impl_one N) (fun r => [⟨(.int .i64), .imm, r⟩]) (fun r => []) }
def impl_one.cfg (N : Nat) : Cfg := { ty := tys, keep := [], flt := [], elm := elm0, live := [], ord := [], con := [], loops := [], joins := [] }
theorem impl_one.cons (N : Nat) : ConsOk Try.prog (impl_one.cfg N).con := consOk_nil
theorem impl_one.ls (N : Nat) : LoopsOk Try.prog (impl_one.cfg N) (fnBody Try.f55) := loopsL (l := []) (by kernel_rfl) trivial
theorem impl_one.b (N : Nat) (x0 : den .bool) : body (impl_one.cfg N) N Try.f55 [.one] [.v] [(false, .imm)] [⟨.bool, .imm, x0⟩] (fun r i => some (r, i)) = bindO (impl_one N x0) fun r => some ([⟨(.int .i64), .imm, r⟩], []) := by
  show _ = bindF _ _
  conv => rhs; simp only [impl_one, bindF_ifB, bindF_bindO, bindF_pure, bindF_none, bindF_onSum]
  kernel_rfl
theorem impl_one.ok (N : Nat) : ConOk Try.prog 55 [.one] (impl_one.con N) := ok1 (g := impl_one.cfg N) (N := N) (res := [(false, .imm)]) tys_ok (impl_one.cons N) mixed Try.func55 (impl_one.ls N) rfl (impl_one.b N)
theorem impl_one.det (N : Nat) : ConDet (impl_one.con N) := det1
def impl_scene_two.con (N : Nat) : Con := { modes := [.io, .v, .v, .v], ptrs := [false], fn := fn4 s39 .imm (.int .i64) .imm (.int .i64) .imm (.int .i64) .imm (impl_scene_two N) (fun r => [⟨(.int .i64), .imm, r.1⟩]) (fun r => [⟨s39, .imm, r.2⟩]) }
def impl_scene_two.cfg (N : Nat) : Cfg := { ty := tys, keep := [19, 28, 34, 40, 46, 73], flt := [], elm := elm0, live := [], ord := [], con := [((55, [.one]), impl_one.con N), ((33, [.one, .one, .one]), impl_within.con N)], loops := [], joins := [] }
theorem impl_scene_two.cons (N : Nat) : ConsOk Try.prog (impl_scene_two.cfg N).con := (consOk_cons (hb55) (impl_one.ok N) (impl_one.det N) (consOk_cons (hb33) (impl_within.ok N) (impl_within.det N) consOk_nil))
theorem impl_scene_two.ls (N : Nat) : LoopsOk Try.prog (impl_scene_two.cfg N) (fnBody Try.f56) := loopsL (l := []) (by kernel_rfl) trivial
theorem impl_scene_two.b (N : Nat) (x0 : den s39) (x1 : den (.int .i64)) (x2 : den (.int .i64)) (x3 : den (.int .i64)) : body (impl_scene_two.cfg N) N Try.f56 [.one, .one, .one, .one] [.io, .v, .v, .v] [(false, .imm)] [⟨s39, .imm, x0⟩, ⟨(.int .i64), .imm, x1⟩, ⟨(.int .i64), .imm, x2⟩, ⟨(.int .i64), .imm, x3⟩] (fun r i => some (r, i)) = bindO (impl_scene_two N x0 x1 x2 x3) fun r => some ([⟨(.int .i64), .imm, r.1⟩], [⟨s39, .imm, r.2⟩]) := by
  show _ = bindF _ _
  conv => rhs; simp only [impl_scene_two, bindF_ifB, bindF_bindO, bindF_pure, bindF_none, bindF_onSum]
  kernel_rfl
theorem impl_scene_two.ok (N : Nat) : ConOk Try.prog 56 [.one, .one, .one, .one] (impl_scene_two.con N) := ok4 (g := impl_scene_two.cfg N) (N := N) (res := [(false, .imm)]) tys_ok (impl_scene_two.cons N) mixed Try.func56 (impl_scene_two.ls N) rfl (impl_scene_two.b N)
theorem impl_scene_two.det (N : Nat) : ConDet (impl_scene_two.con N) := det4
def slices_Grow_Sint64_int64.con (N : Nat) : Con := { modes := [.nl, .v], ptrs := [false], fn := fn2 s23 .imm (.int .i64) .imm (slices_Grow_Sint64_int64 N) (fun r => [⟨s23, (.own .imm), r⟩]) (fun r => []) }
def slices_Grow_Sint64_int64.cfg (N : Nat) : Cfg := { ty := tys, keep := [], flt := [], elm := elm0, live := [], ord := [], con := [], loops := [], joins := [] }
theorem slices_Grow_Sint64_int64.cons (N : Nat) : ConsOk Try.prog (slices_Grow_Sint64_int64.cfg N).con := consOk_nil
theorem slices_Grow_Sint64_int64.ls (N : Nat) : LoopsOk Try.prog (slices_Grow_Sint64_int64.cfg N) (fnBody Try.f92) := loopsL (l := []) (by kernel_rfl) trivial
theorem slices_Grow_Sint64_int64.b (N : Nat) (x0 : den s23) (x1 : den (.int .i64)) : body (slices_Grow_Sint64_int64.cfg N) N Try.f92 [.one, .one] [.nl, .v] [(false, (.own .imm))] [⟨s23, .imm, x0⟩, ⟨(.int .i64), .imm, x1⟩] (fun r i => some (r, i)) = bindO (slices_Grow_Sint64_int64 N x0 x1) fun r => some ([⟨s23, (.own .imm), r⟩], []) := by
  show _ = bindF _ _
  conv => rhs; simp only [slices_Grow_Sint64_int64, bindF_ifB, bindF_bindO, bindF_pure, bindF_none, bindF_onSum]
  kernel_rfl
theorem slices_Grow_Sint64_int64.ok (N : Nat) : ConOk Try.prog 92 [.one, .one] (slices_Grow_Sint64_int64.con N) := ok2 (g := slices_Grow_Sint64_int64.cfg N) (N := N) (res := [(false, (.own .imm))]) tys_ok (slices_Grow_Sint64_int64.cons N) mixed Try.func92 (slices_Grow_Sint64_int64.ls N) rfl (slices_Grow_Sint64_int64.b N)
theorem slices_Grow_Sint64_int64.det (N : Nat) : ConDet (slices_Grow_Sint64_int64.con N) := det2
def slices_Concat_Sint64_int64.sk3 : Skel := ⟨.pv s123 :: (dd 2 (.pv (.int .i64) :: (dd 5 (.pv s123 :: (.pv (.int .i64) :: (.pv (.int .i64) :: (dd 24 []))))))), []⟩
def slices_Concat_Sint64_int64.xs3 : List XS := [⟨.exit 0, [0, 3], ⟨.pv s123 :: (dd 2 (.pv (.int .i64) :: (dd 32 []))), []⟩⟩]
def slices_Concat_Sint64_int64.sk11 : Skel := ⟨dd 6 (.ov 50 [] :: (dd 18 (.pv s123 :: (.pv (.int .i64) :: (.pv (.int .i64) :: (dd 8 [])))))), [⟨50, s23, (.own .imm), false, false⟩]⟩
def slices_Concat_Sint64_int64.xs11 : List XS := [⟨.exit 2, [6], ⟨dd 6 (.ov 50 [] :: (dd 29 [])), [⟨50, s23, (.own .imm), false, false⟩]⟩⟩]
def slices_Concat_Sint64_int64.con (N : Nat) : Con := { modes := [.v], ptrs := [false], fn := fn1 s123 .imm (slices_Concat_Sint64_int64 N) (fun r => [⟨s23, (.own .imm), r⟩]) (fun r => []) }
def slices_Concat_Sint64_int64.cfg (N : Nat) : Cfg := { ty := tys, keep := [24], flt := [], elm := elm0, live := [(11, [6, 25, 26, 27]), (3, [0, 3, 9, 10, 11])], ord := [], con := [((92, [.one, .one]), slices_Grow_Sint64_int64.con N)], loops := [(3, loopCon N slices_Concat_Sint64_int64.sk3 slices_Concat_Sint64_int64.xs3 (fun {R} => slices_Concat_Sint64_int64.l3 (R := R) N)), (11, loopCon N slices_Concat_Sint64_int64.sk11 slices_Concat_Sint64_int64.xs11 (fun {R} => slices_Concat_Sint64_int64.l11 (R := R) N))], joins := [] }
theorem slices_Concat_Sint64_int64.cons (N : Nat) : ConsOk Try.prog (slices_Concat_Sint64_int64.cfg N).con := (consOk_cons (hb92) (slices_Grow_Sint64_int64.ok N) (slices_Grow_Sint64_int64.det N) consOk_nil)
theorem slices_Concat_Sint64_int64.h11 {R : Type} (N : Nat) (d : slices_Concat_Sint64_int64.sk11.D) (kn : slices_Concat_Sint64_int64.sk11.D → Option R) (kx : XD slices_Concat_Sint64_int64.xs11 → Option R) : roundK (slices_Concat_Sint64_int64.cfg N) N (nthLoop (fnBody Try.f88) 1) slices_Concat_Sint64_int64.sk11 slices_Concat_Sint64_int64.xs11 d kn kx = slices_Concat_Sint64_int64.l11 N d kn kx := by kernel_rfl
theorem slices_Concat_Sint64_int64.i11 (N : Nat) : LoopsOk Try.prog (slices_Concat_Sint64_int64.cfg N) (nthLoop (fnBody Try.f88) 1) := loopsL (l := []) (by kernel_rfl) trivial
theorem slices_Concat_Sint64_int64.o11 (N : Nat) : LoopOk Try.prog (nthLoop (fnBody Try.f88) 1) (loopCon N slices_Concat_Sint64_int64.sk11 slices_Concat_Sint64_int64.xs11 (fun {R} => slices_Concat_Sint64_int64.l11 (R := R) N)) := loop_ok (g := slices_Concat_Sint64_int64.cfg N) tys_ok (slices_Concat_Sint64_int64.cons N) mixed (slices_Concat_Sint64_int64.i11 N) (fun d kn kx => slices_Concat_Sint64_int64.h11 N d kn kx)
theorem slices_Concat_Sint64_int64.h3 {R : Type} (N : Nat) (d : slices_Concat_Sint64_int64.sk3.D) (kn : slices_Concat_Sint64_int64.sk3.D → Option R) (kx : XD slices_Concat_Sint64_int64.xs3 → Option R) : roundK (slices_Concat_Sint64_int64.cfg N) N (nthLoop (fnBody Try.f88) 0) slices_Concat_Sint64_int64.sk3 slices_Concat_Sint64_int64.xs3 d kn kx = slices_Concat_Sint64_int64.l3 N d kn kx := by kernel_rfl
theorem slices_Concat_Sint64_int64.i3 (N : Nat) : LoopsOk Try.prog (slices_Concat_Sint64_int64.cfg N) (nthLoop (fnBody Try.f88) 0) := loopsL (l := []) (by kernel_rfl) trivial
theorem slices_Concat_Sint64_int64.o3 (N : Nat) : LoopOk Try.prog (nthLoop (fnBody Try.f88) 0) (loopCon N slices_Concat_Sint64_int64.sk3 slices_Concat_Sint64_int64.xs3 (fun {R} => slices_Concat_Sint64_int64.l3 (R := R) N)) := loop_ok (g := slices_Concat_Sint64_int64.cfg N) tys_ok (slices_Concat_Sint64_int64.cons N) mixed (slices_Concat_Sint64_int64.i3 N) (fun d kn kx => slices_Concat_Sint64_int64.h3 N d kn kx)
theorem slices_Concat_Sint64_int64.ls (N : Nat) : LoopsOk Try.prog (slices_Concat_Sint64_int64.cfg N) (fnBody Try.f88) := loopsL (l := [nthLoop (fnBody Try.f88) 0, nthLoop (fnBody Try.f88) 1]) (by kernel_rfl) ⟨loopOne (L0 := loopCon N slices_Concat_Sint64_int64.sk3 slices_Concat_Sint64_int64.xs3 (fun {R} => slices_Concat_Sint64_int64.l3 (R := R) N)) (id := 3) (by kernel_rfl) (by kernel_rfl) (slices_Concat_Sint64_int64.o3 N), ⟨loopOne (L0 := loopCon N slices_Concat_Sint64_int64.sk11 slices_Concat_Sint64_int64.xs11 (fun {R} => slices_Concat_Sint64_int64.l11 (R := R) N)) (id := 11) (by kernel_rfl) (by kernel_rfl) (slices_Concat_Sint64_int64.o11 N), trivial⟩⟩
theorem slices_Concat_Sint64_int64.q11 {R R' : Type} {N n : Nat} {d} {k} {g : R → Option R'} : bindF (loopP (slices_Concat_Sint64_int64.l11 N) n d k) g = loopP (slices_Concat_Sint64_int64.l11 N) n d fun e => bindF (k e) g := bindF_loopP (fun d kn kx => by simp only [slices_Concat_Sint64_int64.l11, bindF_ifB, bindF_bindO, bindF_pure, bindF_none, bindF_onSum]) n d k
theorem slices_Concat_Sint64_int64.q3 {R R' : Type} {N n : Nat} {d} {k} {g : R → Option R'} : bindF (loopP (slices_Concat_Sint64_int64.l3 N) n d k) g = loopP (slices_Concat_Sint64_int64.l3 N) n d fun e => bindF (k e) g := bindF_loopP (fun d kn kx => by simp only [slices_Concat_Sint64_int64.l3, bindF_ifB, bindF_bindO, bindF_pure, bindF_none, bindF_onSum]) n d k
theorem slices_Concat_Sint64_int64.b (N : Nat) (x0 : den s123) : body (slices_Concat_Sint64_int64.cfg N) N Try.f88 [.one] [.v] [(false, (.own .imm))] [⟨s123, .imm, x0⟩] (fun r i => some (r, i)) = bindO (slices_Concat_Sint64_int64 N x0) fun r => some ([⟨s23, (.own .imm), r⟩], []) := by
  show _ = bindF _ _
  conv => rhs; simp only [slices_Concat_Sint64_int64, bindF_ifB, bindF_bindO, bindF_pure, bindF_none, bindF_onSum, slices_Concat_Sint64_int64.q3, slices_Concat_Sint64_int64.q11]
  kernel_rfl
theorem slices_Concat_Sint64_int64.ok (N : Nat) : ConOk Try.prog 88 [.one] (slices_Concat_Sint64_int64.con N) := ok1 (g := slices_Concat_Sint64_int64.cfg N) (N := N) (res := [(false, (.own .imm))]) tys_ok (slices_Concat_Sint64_int64.cons N) mixed Try.func88 (slices_Concat_Sint64_int64.ls N) rfl (slices_Concat_Sint64_int64.b N)
theorem slices_Concat_Sint64_int64.det (N : Nat) : ConDet (slices_Concat_Sint64_int64.con N) := det1
def impl_replace_c1.con (N : Nat) : Con := { modes := [.v, .rd, .rd, .rd], ptrs := [false], fn := fn4 (.int .i64) .imm (.int .i64) .imm (.int .i64) .imm (.int .i64) .imm (impl_replace_c1 N) (fun r => [⟨(.int .i64), .imm, r⟩]) (fun r => []) }
def impl_replace_c1.cfg (N : Nat) : Cfg := { ty := tys, keep := [], flt := [], elm := elm0, live := [], ord := [], con := [], loops := [], joins := [] }
theorem impl_replace_c1.cons (N : Nat) : ConsOk Try.prog (impl_replace_c1.cfg N).con := consOk_nil
theorem impl_replace_c1.ls (N : Nat) : LoopsOk Try.prog (impl_replace_c1.cfg N) (fnBody Try.f87) := loopsL (l := []) (by kernel_rfl) trivial
theorem impl_replace_c1.b (N : Nat) (x0 : den (.int .i64)) (x1 : den (.int .i64)) (x2 : den (.int .i64)) (x3 : den (.int .i64)) : body (impl_replace_c1.cfg N) N Try.f87 [.one] [.v, .rd, .rd, .rd] [(false, .imm)] [⟨(.int .i64), .imm, x0⟩, ⟨(.int .i64), .imm, x1⟩, ⟨(.int .i64), .imm, x2⟩, ⟨(.int .i64), .imm, x3⟩] (fun r i => some (r, i)) = bindO (impl_replace_c1 N x0 x1 x2 x3) fun r => some ([⟨(.int .i64), .imm, r⟩], []) := by
  show _ = bindF _ _
  conv => rhs; simp only [impl_replace_c1, bindF_ifB, bindF_bindO, bindF_pure, bindF_none, bindF_onSum]
  kernel_rfl
theorem impl_replace_c1.ok (N : Nat) : ConOk Try.prog 87 [.one] (impl_replace_c1.con N) := ok4 (g := impl_replace_c1.cfg N) (N := N) (res := [(false, .imm)]) tys_ok (impl_replace_c1.cons N) mixed Try.func87 (impl_replace_c1.ls N) rfl (impl_replace_c1.b N)
theorem impl_replace_c1.det (N : Nat) : ConDet (impl_replace_c1.con N) := det4
end Go.AE.F
end
