/- The printed functions are what the program comes to: contracts. -/
import Derived.Test.YtliimhlefbnamaaLRingL1
noncomputable section
namespace Go.AE.F
open Go.AE Go.Proofs Go.Lib
set_option maxRecDepth 100000
def impl_isItem.con (N : Nat) : Con := { modes := [.v], ptrs := [false], fn := fn1 s26 .imm (impl_isItem N) (fun r => [⟨.bool, .imm, r⟩]) (fun r => []) }
def impl_isItem.cfg (N : Nat) : Cfg := { ty := tys, keep := [8], flt := [], elm := elm0, live := [], ord := [], con := [((35, [.one]), impl_PointsRight.con N)], loops := [], joins := [] }
theorem impl_isItem.cons (N : Nat) : ConsOk Try.prog (impl_isItem.cfg N).con := (consOk_cons (hb35) (impl_PointsRight.ok N) (impl_PointsRight.det N) consOk_nil)
theorem impl_isItem.ls (N : Nat) : LoopsOk Try.prog (impl_isItem.cfg N) (fnBody Try.f22) := loopsL (l := []) (by kernel_rfl) trivial
theorem impl_isItem.b (N : Nat) (x0 : den s26) : body (impl_isItem.cfg N) N Try.f22 [.one] [.v] [(false, .imm)] [⟨s26, .imm, x0⟩] (fun r i => some (r, i)) = bindO (impl_isItem N x0) fun r => some ([⟨.bool, .imm, r⟩], []) := by
  show _ = bindF _ _
  conv => rhs; simp only [impl_isItem, bindF_ifB, bindF_bindO, bindF_pure, bindF_none, bindF_onSum]
  kernel_rfl
theorem impl_isItem.ok (N : Nat) : ConOk Try.prog 22 [.one] (impl_isItem.con N) := ok1 (g := impl_isItem.cfg N) (N := N) (res := [(false, .imm)]) tys_ok (impl_isItem.cons N) mixed Try.func22 (impl_isItem.ls N) rfl (impl_isItem.b N)
theorem impl_isItem.det (N : Nat) : ConDet (impl_isItem.con N) := det1
def impl_areItems_c1.con (N : Nat) : Con := { modes := [.v], ptrs := [false], fn := fn1 s26 .imm (impl_areItems_c1 N) (fun r => [⟨.bool, .imm, r⟩]) (fun r => []) }
def impl_areItems_c1.cfg (N : Nat) : Cfg := { ty := tys, keep := [4], flt := [], elm := elm0, live := [], ord := [], con := [((22, [.one]), impl_isItem.con N)], loops := [], joins := [] }
theorem impl_areItems_c1.cons (N : Nat) : ConsOk Try.prog (impl_areItems_c1.cfg N).con := (consOk_cons (hb22) (impl_isItem.ok N) (impl_isItem.det N) consOk_nil)
theorem impl_areItems_c1.ls (N : Nat) : LoopsOk Try.prog (impl_areItems_c1.cfg N) (fnBody Try.f39) := loopsL (l := []) (by kernel_rfl) trivial
theorem impl_areItems_c1.b (N : Nat) (x0 : den s26) : body (impl_areItems_c1.cfg N) N Try.f39 [.one] [.v] [(false, .imm)] [⟨s26, .imm, x0⟩] (fun r i => some (r, i)) = bindO (impl_areItems_c1 N x0) fun r => some ([⟨.bool, .imm, r⟩], []) := by
  show _ = bindF _ _
  conv => rhs; simp only [impl_areItems_c1, bindF_ifB, bindF_bindO, bindF_pure, bindF_none, bindF_onSum]
  kernel_rfl
theorem impl_areItems_c1.ok (N : Nat) : ConOk Try.prog 39 [.one] (impl_areItems_c1.con N) := ok1 (g := impl_areItems_c1.cfg N) (N := N) (res := [(false, .imm)]) tys_ok (impl_areItems_c1.cons N) mixed Try.func39 (impl_areItems_c1.ls N) rfl (impl_areItems_c1.b N)
theorem impl_areItems_c1.det (N : Nat) : ConDet (impl_areItems_c1.con N) := det1
def slices_IndexFunc_S_Sint64__Sint64__impl_areItems_c1.sk2 : Skel := ⟨.pv s23 :: (.fn 39 [] :: (dd 5 (.pv (.int .i64) :: (.pv (.int .i64) :: (dd 10 []))))), []⟩
def slices_IndexFunc_S_Sint64__Sint64__impl_areItems_c1.xs2 : List XS := [⟨.exit 0, [], ⟨dd 19 [], []⟩⟩, ⟨.ret, [4], ⟨dd 4 (.pv (.int .i64) :: (dd 14 [])), []⟩⟩]
def slices_IndexFunc_S_Sint64__Sint64__impl_areItems_c1.con (N : Nat) : Con := { modes := [.v], ptrs := [false], fn := fn1 s23 .imm (slices_IndexFunc_S_Sint64__Sint64__impl_areItems_c1 N) (fun r => [⟨(.int .i64), .imm, r⟩]) (fun r => []) }
def slices_IndexFunc_S_Sint64__Sint64__impl_areItems_c1.cfg (N : Nat) : Cfg := { ty := tys, keep := [16], flt := [], elm := elm0, live := [(2, [0, 1, 7, 8])], ord := [], con := [((39, [.one]), impl_areItems_c1.con N)], loops := [(2, loopCon N slices_IndexFunc_S_Sint64__Sint64__impl_areItems_c1.sk2 slices_IndexFunc_S_Sint64__Sint64__impl_areItems_c1.xs2 (fun {R} => slices_IndexFunc_S_Sint64__Sint64__impl_areItems_c1.l2 (R := R) N))], joins := [] }
theorem slices_IndexFunc_S_Sint64__Sint64__impl_areItems_c1.cons (N : Nat) : ConsOk Try.prog (slices_IndexFunc_S_Sint64__Sint64__impl_areItems_c1.cfg N).con := (consOk_cons (hb39) (impl_areItems_c1.ok N) (impl_areItems_c1.det N) consOk_nil)
theorem slices_IndexFunc_S_Sint64__Sint64__impl_areItems_c1.h2 {R : Type} (N : Nat) (d : slices_IndexFunc_S_Sint64__Sint64__impl_areItems_c1.sk2.D) (kn : slices_IndexFunc_S_Sint64__Sint64__impl_areItems_c1.sk2.D → Option R) (kx : XD slices_IndexFunc_S_Sint64__Sint64__impl_areItems_c1.xs2 → Option R) : roundK (slices_IndexFunc_S_Sint64__Sint64__impl_areItems_c1.cfg N) N (nthLoop (fnBody Try.f46) 0) slices_IndexFunc_S_Sint64__Sint64__impl_areItems_c1.sk2 slices_IndexFunc_S_Sint64__Sint64__impl_areItems_c1.xs2 d kn kx = slices_IndexFunc_S_Sint64__Sint64__impl_areItems_c1.l2 N d kn kx := by kernel_rfl
theorem slices_IndexFunc_S_Sint64__Sint64__impl_areItems_c1.i2 (N : Nat) : LoopsOk Try.prog (slices_IndexFunc_S_Sint64__Sint64__impl_areItems_c1.cfg N) (nthLoop (fnBody Try.f46) 0) := loopsL (l := []) (by kernel_rfl) trivial
theorem slices_IndexFunc_S_Sint64__Sint64__impl_areItems_c1.o2 (N : Nat) : LoopOk Try.prog (nthLoop (fnBody Try.f46) 0) (loopCon N slices_IndexFunc_S_Sint64__Sint64__impl_areItems_c1.sk2 slices_IndexFunc_S_Sint64__Sint64__impl_areItems_c1.xs2 (fun {R} => slices_IndexFunc_S_Sint64__Sint64__impl_areItems_c1.l2 (R := R) N)) := loop_ok (g := slices_IndexFunc_S_Sint64__Sint64__impl_areItems_c1.cfg N) tys_ok (slices_IndexFunc_S_Sint64__Sint64__impl_areItems_c1.cons N) mixed (slices_IndexFunc_S_Sint64__Sint64__impl_areItems_c1.i2 N) (fun d kn kx => slices_IndexFunc_S_Sint64__Sint64__impl_areItems_c1.h2 N d kn kx)
theorem slices_IndexFunc_S_Sint64__Sint64__impl_areItems_c1.ls (N : Nat) : LoopsOk Try.prog (slices_IndexFunc_S_Sint64__Sint64__impl_areItems_c1.cfg N) (fnBody Try.f46) := loopsL (l := [nthLoop (fnBody Try.f46) 0]) (by kernel_rfl) ⟨loopOne (L0 := loopCon N slices_IndexFunc_S_Sint64__Sint64__impl_areItems_c1.sk2 slices_IndexFunc_S_Sint64__Sint64__impl_areItems_c1.xs2 (fun {R} => slices_IndexFunc_S_Sint64__Sint64__impl_areItems_c1.l2 (R := R) N)) (id := 2) (by kernel_rfl) (by kernel_rfl) (slices_IndexFunc_S_Sint64__Sint64__impl_areItems_c1.o2 N), trivial⟩
theorem slices_IndexFunc_S_Sint64__Sint64__impl_areItems_c1.q2 {R R' : Type} {N n : Nat} {d} {k} {g : R → Option R'} : bindF (loopP (slices_IndexFunc_S_Sint64__Sint64__impl_areItems_c1.l2 N) n d k) g = loopP (slices_IndexFunc_S_Sint64__Sint64__impl_areItems_c1.l2 N) n d fun e => bindF (k e) g := bindF_loopP (fun d kn kx => by simp only [slices_IndexFunc_S_Sint64__Sint64__impl_areItems_c1.l2, bindF_ifB, bindF_bindO, bindF_pure, bindF_none, bindF_onSum]) n d k
theorem slices_IndexFunc_S_Sint64__Sint64__impl_areItems_c1.b (N : Nat) (x0 : den s23) : body (slices_IndexFunc_S_Sint64__Sint64__impl_areItems_c1.cfg N) N Try.f46 [.one, .fn 39 0] [.v] [(false, .imm)] [⟨s23, .imm, x0⟩] (fun r i => some (r, i)) = bindO (slices_IndexFunc_S_Sint64__Sint64__impl_areItems_c1 N x0) fun r => some ([⟨(.int .i64), .imm, r⟩], []) := by
  show _ = bindF _ _
  conv => rhs; simp only [slices_IndexFunc_S_Sint64__Sint64__impl_areItems_c1, bindF_ifB, bindF_bindO, bindF_pure, bindF_none, bindF_onSum, slices_IndexFunc_S_Sint64__Sint64__impl_areItems_c1.q2]
  kernel_rfl
theorem slices_IndexFunc_S_Sint64__Sint64__impl_areItems_c1.ok (N : Nat) : ConOk Try.prog 46 [.one, .fn 39 0] (slices_IndexFunc_S_Sint64__Sint64__impl_areItems_c1.con N) := ok1 (g := slices_IndexFunc_S_Sint64__Sint64__impl_areItems_c1.cfg N) (N := N) (res := [(false, .imm)]) tys_ok (slices_IndexFunc_S_Sint64__Sint64__impl_areItems_c1.cons N) mixed Try.func46 (slices_IndexFunc_S_Sint64__Sint64__impl_areItems_c1.ls N) rfl (slices_IndexFunc_S_Sint64__Sint64__impl_areItems_c1.b N)
theorem slices_IndexFunc_S_Sint64__Sint64__impl_areItems_c1.det (N : Nat) : ConDet (slices_IndexFunc_S_Sint64__Sint64__impl_areItems_c1.con N) := det1
def slices_ContainsFunc_S_Sint64__Sint64__impl_areItems_c1.con (N : Nat) : Con := { modes := [.v], ptrs := [false], fn := fn1 s23 .imm (slices_ContainsFunc_S_Sint64__Sint64__impl_areItems_c1 N) (fun r => [⟨.bool, .imm, r⟩]) (fun r => []) }
def slices_ContainsFunc_S_Sint64__Sint64__impl_areItems_c1.cfg (N : Nat) : Cfg := { ty := tys, keep := [7], flt := [], elm := elm0, live := [], ord := [], con := [((46, [.one, .fn 39 0]), slices_IndexFunc_S_Sint64__Sint64__impl_areItems_c1.con N)], loops := [], joins := [] }
theorem slices_ContainsFunc_S_Sint64__Sint64__impl_areItems_c1.cons (N : Nat) : ConsOk Try.prog (slices_ContainsFunc_S_Sint64__Sint64__impl_areItems_c1.cfg N).con := (consOk_cons (hb46) (slices_IndexFunc_S_Sint64__Sint64__impl_areItems_c1.ok N) (slices_IndexFunc_S_Sint64__Sint64__impl_areItems_c1.det N) consOk_nil)
theorem slices_ContainsFunc_S_Sint64__Sint64__impl_areItems_c1.ls (N : Nat) : LoopsOk Try.prog (slices_ContainsFunc_S_Sint64__Sint64__impl_areItems_c1.cfg N) (fnBody Try.f38) := loopsL (l := []) (by kernel_rfl) trivial
theorem slices_ContainsFunc_S_Sint64__Sint64__impl_areItems_c1.b (N : Nat) (x0 : den s23) : body (slices_ContainsFunc_S_Sint64__Sint64__impl_areItems_c1.cfg N) N Try.f38 [.one, .fn 39 0] [.v] [(false, .imm)] [⟨s23, .imm, x0⟩] (fun r i => some (r, i)) = bindO (slices_ContainsFunc_S_Sint64__Sint64__impl_areItems_c1 N x0) fun r => some ([⟨.bool, .imm, r⟩], []) := by
  show _ = bindF _ _
  conv => rhs; simp only [slices_ContainsFunc_S_Sint64__Sint64__impl_areItems_c1, bindF_ifB, bindF_bindO, bindF_pure, bindF_none, bindF_onSum]
  kernel_rfl
theorem slices_ContainsFunc_S_Sint64__Sint64__impl_areItems_c1.ok (N : Nat) : ConOk Try.prog 38 [.one, .fn 39 0] (slices_ContainsFunc_S_Sint64__Sint64__impl_areItems_c1.con N) := ok1 (g := slices_ContainsFunc_S_Sint64__Sint64__impl_areItems_c1.cfg N) (N := N) (res := [(false, .imm)]) tys_ok (slices_ContainsFunc_S_Sint64__Sint64__impl_areItems_c1.cons N) mixed Try.func38 (slices_ContainsFunc_S_Sint64__Sint64__impl_areItems_c1.ls N) rfl (slices_ContainsFunc_S_Sint64__Sint64__impl_areItems_c1.b N)
theorem slices_ContainsFunc_S_Sint64__Sint64__impl_areItems_c1.det (N : Nat) : ConDet (slices_ContainsFunc_S_Sint64__Sint64__impl_areItems_c1.con N) := det1
def impl_areItems.con (N : Nat) : Con := { modes := [.v], ptrs := [false], fn := fn1 s23 .imm (impl_areItems N) (fun r => [⟨.bool, .imm, r⟩]) (fun r => []) }
def impl_areItems.cfg (N : Nat) : Cfg := { ty := tys, keep := [4], flt := [], elm := elm0, live := [], ord := [], con := [((38, [.one, .fn 39 0]), slices_ContainsFunc_S_Sint64__Sint64__impl_areItems_c1.con N)], loops := [], joins := [] }
theorem impl_areItems.cons (N : Nat) : ConsOk Try.prog (impl_areItems.cfg N).con := (consOk_cons (hb38) (slices_ContainsFunc_S_Sint64__Sint64__impl_areItems_c1.ok N) (slices_ContainsFunc_S_Sint64__Sint64__impl_areItems_c1.det N) consOk_nil)
theorem impl_areItems.ls (N : Nat) : LoopsOk Try.prog (impl_areItems.cfg N) (fnBody Try.f28) := loopsL (l := []) (by kernel_rfl) trivial
theorem impl_areItems.b (N : Nat) (x0 : den s23) : body (impl_areItems.cfg N) N Try.f28 [.one] [.v] [(false, .imm)] [⟨s23, .imm, x0⟩] (fun r i => some (r, i)) = bindO (impl_areItems N x0) fun r => some ([⟨.bool, .imm, r⟩], []) := by
  show _ = bindF _ _
  conv => rhs; simp only [impl_areItems, bindF_ifB, bindF_bindO, bindF_pure, bindF_none, bindF_onSum]
  kernel_rfl
theorem impl_areItems.ok (N : Nat) : ConOk Try.prog 28 [.one] (impl_areItems.con N) := ok1 (g := impl_areItems.cfg N) (N := N) (res := [(false, .imm)]) tys_ok (impl_areItems.cons N) mixed Try.func28 (impl_areItems.ls N) rfl (impl_areItems.b N)
theorem impl_areItems.det (N : Nat) : ConDet (impl_areItems.con N) := det1
def impl_size_SSint64.con (N : Nat) : Con := { modes := [.v], ptrs := [false], fn := fn1 s23 .imm (impl_size_SSint64 N) (fun r => [⟨(.int .i64), .imm, r⟩]) (fun r => []) }
def impl_size_SSint64.cfg (N : Nat) : Cfg := { ty := tys, keep := [], flt := [], elm := elm0, live := [], ord := [], con := [], loops := [], joins := [] }
theorem impl_size_SSint64.cons (N : Nat) : ConsOk Try.prog (impl_size_SSint64.cfg N).con := consOk_nil
theorem impl_size_SSint64.ls (N : Nat) : LoopsOk Try.prog (impl_size_SSint64.cfg N) (fnBody Try.f30) := loopsL (l := []) (by kernel_rfl) trivial
theorem impl_size_SSint64.b (N : Nat) (x0 : den s23) : body (impl_size_SSint64.cfg N) N Try.f30 [.one] [.v] [(false, .imm)] [⟨s23, .imm, x0⟩] (fun r i => some (r, i)) = bindO (impl_size_SSint64 N x0) fun r => some ([⟨(.int .i64), .imm, r⟩], []) := by
  show _ = bindF _ _
  conv => rhs; simp only [impl_size_SSint64, bindF_ifB, bindF_bindO, bindF_pure, bindF_none, bindF_onSum]
  kernel_rfl
theorem impl_size_SSint64.ok (N : Nat) : ConOk Try.prog 30 [.one] (impl_size_SSint64.con N) := ok1 (g := impl_size_SSint64.cfg N) (N := N) (res := [(false, .imm)]) tys_ok (impl_size_SSint64.cons N) mixed Try.func30 (impl_size_SSint64.ls N) rfl (impl_size_SSint64.b N)
theorem impl_size_SSint64.det (N : Nat) : ConDet (impl_size_SSint64.con N) := det1
def impl_RingRight.con (N : Nat) : Con := { modes := [.v], ptrs := [false], fn := fn1 s24 .imm (impl_RingRight N) (fun r => [⟨.bool, .imm, r⟩]) (fun r => []) }
def impl_RingRight.cfg (N : Nat) : Cfg := { ty := tys, keep := [10, 17, 20], flt := [], elm := elm0, live := [], ord := [(1, [0, 1, 2, 3, 4, 5, 6, 7, 8, 9, 10, 11, 12, 13, 14, 15, 16, 17, 18, 19])], con := [((28, [.one]), impl_areItems.con N), ((30, [.one]), impl_size_SSint64.con N), ((29, [.one, .one, .one]), impl_within.con N)], loops := [], joins := [] }
theorem impl_RingRight.cons (N : Nat) : ConsOk Try.prog (impl_RingRight.cfg N).con := (consOk_cons (hb28) (impl_areItems.ok N) (impl_areItems.det N) (consOk_cons (hb30) (impl_size_SSint64.ok N) (impl_size_SSint64.det N) (consOk_cons (hb29) (impl_within.ok N) (impl_within.det N) consOk_nil)))
theorem impl_RingRight.ls (N : Nat) : LoopsOk Try.prog (impl_RingRight.cfg N) (fnBody Try.f11) := loopsL (l := []) (by kernel_rfl) trivial
theorem impl_RingRight.b (N : Nat) (x0 : den s24) : body (impl_RingRight.cfg N) N Try.f11 [.one] [.v] [(false, .imm)] [⟨s24, .imm, x0⟩] (fun r i => some (r, i)) = bindO (impl_RingRight N x0) fun r => some ([⟨.bool, .imm, r⟩], []) := by
  show _ = bindF _ _
  conv => rhs; simp only [impl_RingRight, bindF_ifB, bindF_bindO, bindF_pure, bindF_none, bindF_onSum]
  kernel_rfl
theorem impl_RingRight.ok (N : Nat) : ConOk Try.prog 11 [.one] (impl_RingRight.con N) := ok1 (g := impl_RingRight.cfg N) (N := N) (res := [(false, .imm)]) tys_ok (impl_RingRight.cons N) mixed Try.func11 (impl_RingRight.ls N) rfl (impl_RingRight.b N)
theorem impl_RingRight.det (N : Nat) : ConDet (impl_RingRight.con N) := det1
def slices_Clone_Sint64_int64.con (N : Nat) : Con := { modes := [.v], ptrs := [false], fn := fun ds k => match ds with | [d0] => castDm s26 .imm d0 fun x0 => bindO (slices_Clone_Sint64_int64 N x0) fun r => k [⟨s26, (.own .imm), r⟩] [] | _ => none }
def slices_Clone_Sint64_int64.cfg (N : Nat) : Cfg := { ty := tys, keep := [], flt := [], elm := elm0, live := [], ord := [], con := [], loops := [], joins := [] }
theorem slices_Clone_Sint64_int64.cons (N : Nat) : ConsOk Try.prog (slices_Clone_Sint64_int64.cfg N).con := consOk_nil
theorem slices_Clone_Sint64_int64.ls (N : Nat) : LoopsOk Try.prog (slices_Clone_Sint64_int64.cfg N) (fnBody Try.f31) := loopsL (l := []) (by kernel_rfl) trivial
theorem slices_Clone_Sint64_int64.pu {R : Type} (N : Nat) (x0 : den s26) (f : _ → Option R) : Psh (slices_Clone_Sint64_int64 N x0) (slices_Clone_Sint64_int64.g N x0 f) f := by
  unfold slices_Clone_Sint64_int64 slices_Clone_Sint64_int64.g
  repeat' (first | exact psh_pure | exact psh_none | refine psh_ifB ?_ ?_ | refine psh_same ?_ ?_ | refine psh_bindO fun _ => ?_)
theorem slices_Clone_Sint64_int64.b (N : Nat) (x0 : den s26) : body (slices_Clone_Sint64_int64.cfg N) N Try.f31 [.one] [.v] [(false, (.own .imm))] [⟨s26, .imm, x0⟩] (fun r i => some (r, i)) = slices_Clone_Sint64_int64.g N x0 fun r => some ([⟨s26, (.own .imm), r⟩], []) := by kernel_rfl
theorem slices_Clone_Sint64_int64.ok (N : Nat) : ConOk Try.prog 31 [.one] (slices_Clone_Sint64_int64.con N) := by
  refine conOk_mk (g := slices_Clone_Sint64_int64.cfg N) (N := N) (res := [(false, (.own .imm))]) tys_ok (slices_Clone_Sint64_int64.cons N) mixed Try.func31 (slices_Clone_Sint64_int64.ls N) rfl rfl ?_
  intro ds R k y h
  cases ds with
  | nil => exact none_some h
  | cons d0 ds =>
  cases ds with
  | cons _ _ => exact none_some h
  | nil =>
  have h0 : (castDm s26 .imm d0 fun x0 => bindO (slices_Clone_Sint64_int64 N x0) fun r => k [⟨s26, (.own .imm), r⟩] []) = some y := h
  clear h
  obtain ⟨x0, rfl, h1⟩ := castDm_eq h0
  exact con_fin' (slices_Clone_Sint64_int64.b N x0) (slices_Clone_Sint64_int64.pu N x0 _) h1
theorem slices_Clone_Sint64_int64.det (N : Nat) : ConDet (slices_Clone_Sint64_int64.con N) := by
  intro ds R k y h
  cases ds with
  | nil => exact none_some h
  | cons d0 ds =>
  cases ds with
  | cons _ _ => exact none_some h
  | nil =>
  have h0 : (castDm s26 .imm d0 fun x0 => bindO (slices_Clone_Sint64_int64 N x0) fun r => k [⟨s26, (.own .imm), r⟩] []) = some y := h
  clear h
  obtain ⟨x0, rfl, h1⟩ := castDm_eq h0
  obtain ⟨r, e, h⟩ := bindO_some h1
  refine ⟨_, _, h, fun k' => ?_⟩
  show (castDm s26 .imm (⟨s26, .imm, x0⟩ : Dy) fun x0 => bindO (slices_Clone_Sint64_int64 N x0) fun r => k' [⟨s26, (.own .imm), r⟩] []) = _
  simp only [castDm_self]
  rw [e]
  rfl
def impl_ownLists.sk3 : Skel := ⟨dd 3 (.ov 50 [] :: (dd 3 (.pv s23 :: (.pv (.int .i64) :: (.pv (.int .i64) :: (dd 10 [])))))), [⟨50, s23, (.own (.own .imm)), false, false⟩]⟩
def impl_ownLists.xs3 : List XS := [⟨.exit 0, [3], ⟨dd 3 (.ov 50 [] :: (dd 16 [])), [⟨50, s23, (.own (.own .imm)), false, false⟩]⟩⟩]
def impl_ownLists.con (N : Nat) : Con := { modes := [.v], ptrs := [false], fn := fn1 s23 .imm (impl_ownLists N) (fun r => [⟨s23, (.own (.own .imm)), r⟩]) (fun r => []) }
def impl_ownLists.cfg (N : Nat) : Cfg := { ty := tys, keep := [15], flt := [], elm := elm0, live := [(3, [3, 7, 8, 9])], ord := [], con := [((31, [.one]), slices_Clone_Sint64_int64.con N)], loops := [(3, loopCon N impl_ownLists.sk3 impl_ownLists.xs3 (fun {R} => impl_ownLists.l3 (R := R) N))], joins := [] }
theorem impl_ownLists.cons (N : Nat) : ConsOk Try.prog (impl_ownLists.cfg N).con := (consOk_cons (hb31) (slices_Clone_Sint64_int64.ok N) (slices_Clone_Sint64_int64.det N) consOk_nil)
theorem impl_ownLists.h3 {R : Type} (N : Nat) (d : impl_ownLists.sk3.D) (kn : impl_ownLists.sk3.D → Option R) (kx : XD impl_ownLists.xs3 → Option R) : roundK (impl_ownLists.cfg N) N (nthLoop (fnBody Try.f36) 0) impl_ownLists.sk3 impl_ownLists.xs3 d kn kx = impl_ownLists.l3 N d kn kx := by kernel_rfl
theorem impl_ownLists.i3 (N : Nat) : LoopsOk Try.prog (impl_ownLists.cfg N) (nthLoop (fnBody Try.f36) 0) := loopsL (l := []) (by kernel_rfl) trivial
theorem impl_ownLists.o3 (N : Nat) : LoopOk Try.prog (nthLoop (fnBody Try.f36) 0) (loopCon N impl_ownLists.sk3 impl_ownLists.xs3 (fun {R} => impl_ownLists.l3 (R := R) N)) := loop_ok (g := impl_ownLists.cfg N) tys_ok (impl_ownLists.cons N) mixed (impl_ownLists.i3 N) (fun d kn kx => impl_ownLists.h3 N d kn kx)
theorem impl_ownLists.ls (N : Nat) : LoopsOk Try.prog (impl_ownLists.cfg N) (fnBody Try.f36) := loopsL (l := [nthLoop (fnBody Try.f36) 0]) (by kernel_rfl) ⟨loopOne (L0 := loopCon N impl_ownLists.sk3 impl_ownLists.xs3 (fun {R} => impl_ownLists.l3 (R := R) N)) (id := 3) (by kernel_rfl) (by kernel_rfl) (impl_ownLists.o3 N), trivial⟩
theorem impl_ownLists.q3 {R R' : Type} {N n : Nat} {d} {k} {g : R → Option R'} : bindF (loopP (impl_ownLists.l3 N) n d k) g = loopP (impl_ownLists.l3 N) n d fun e => bindF (k e) g := bindF_loopP (fun d kn kx => by simp only [impl_ownLists.l3, bindF_ifB, bindF_bindO, bindF_pure, bindF_none, bindF_onSum]) n d k
theorem impl_ownLists.b (N : Nat) (x0 : den s23) : body (impl_ownLists.cfg N) N Try.f36 [.one] [.v] [(false, (.own (.own .imm)))] [⟨s23, .imm, x0⟩] (fun r i => some (r, i)) = bindO (impl_ownLists N x0) fun r => some ([⟨s23, (.own (.own .imm)), r⟩], []) := by
  show _ = bindF _ _
  conv => rhs; simp only [impl_ownLists, bindF_ifB, bindF_bindO, bindF_pure, bindF_none, bindF_onSum, impl_ownLists.q3]
  kernel_rfl
theorem impl_ownLists.ok (N : Nat) : ConOk Try.prog 36 [.one] (impl_ownLists.con N) := ok1 (g := impl_ownLists.cfg N) (N := N) (res := [(false, (.own (.own .imm)))]) tys_ok (impl_ownLists.cons N) mixed Try.func36 (impl_ownLists.ls N) rfl (impl_ownLists.b N)
theorem impl_ownLists.det (N : Nat) : ConDet (impl_ownLists.con N) := det1
def impl_ownRing.con (N : Nat) : Con := { modes := [.v], ptrs := [false], fn := fn1 s24 .imm (impl_ownRing N) (fun r => [⟨s24, (.pr (.own (.own .imm)) .imm), r⟩]) (fun r => []) }
def impl_ownRing.cfg (N : Nat) : Cfg := { ty := tys, keep := [5], flt := [], elm := elm0, live := [], ord := [(1, [0, 1, 3, 4, 2, 5, 6])], con := [((36, [.one]), impl_ownLists.con N)], loops := [], joins := [] }
theorem impl_ownRing.cons (N : Nat) : ConsOk Try.prog (impl_ownRing.cfg N).con := (consOk_cons (hb36) (impl_ownLists.ok N) (impl_ownLists.det N) consOk_nil)
theorem impl_ownRing.ls (N : Nat) : LoopsOk Try.prog (impl_ownRing.cfg N) (fnBody Try.f23) := loopsL (l := []) (by kernel_rfl) trivial
theorem impl_ownRing.b (N : Nat) (x0 : den s24) : body (impl_ownRing.cfg N) N Try.f23 [.one] [.v] [(false, (.pr (.own (.own .imm)) .imm))] [⟨s24, .imm, x0⟩] (fun r i => some (r, i)) = bindO (impl_ownRing N x0) fun r => some ([⟨s24, (.pr (.own (.own .imm)) .imm), r⟩], []) := by
  show _ = bindF _ _
  conv => rhs; simp only [impl_ownRing, bindF_ifB, bindF_bindO, bindF_pure, bindF_none, bindF_onSum]
  kernel_rfl
theorem impl_ownRing.ok (N : Nat) : ConOk Try.prog 23 [.one] (impl_ownRing.con N) := ok1 (g := impl_ownRing.cfg N) (N := N) (res := [(false, (.pr (.own (.own .imm)) .imm))]) tys_ok (impl_ownRing.cons N) mixed Try.func23 (impl_ownRing.ls N) rfl (impl_ownRing.b N)
theorem impl_ownRing.det (N : Nat) : ConDet (impl_ownRing.con N) := det1
set_option maxHeartbeats 4000000 in
set_option maxRecDepth 100000 in
theorem ins37_end (ad : Option Addr) (n c vb voff m vc : Nat) (w w1 : World) (r : Value) (hm : 0 < m) (hrun : (Builtin.append_ #[23, 23] 23 #[.slice ad n c, .slice (some ⟨vb, voff, none⟩) m vc]).run Try.prog w = .ok r w1) :
    Calls Try.prog 37 #[.slice ad n c, .int .i64 n, .slice (some ⟨vb, voff, none⟩) m vc] w fun e w' => e = .returned r ∧ w' = w1 := by
  have t0 := Try.underlying0; have a0 := Try.isAgg0; have z0 := Try.sizeOf0; have v0 := Try.zeroValue0
  have t3 := Try.underlying3; have a3 := Try.isAgg3; have z3 := Try.sizeOf3; have v3 := Try.zeroValue3
  have t4 := Try.underlying4; have a4 := Try.isAgg4; have z4 := Try.sizeOf4; have v4 := Try.zeroValue4
  have t26 := Try.underlying26; have a26 := Try.isAgg26; have z26 := Try.sizeOf26; have v26 := Try.zeroValue26
  have t23 := Try.underlying23; have a23 := Try.isAgg23; have z23 := Try.sizeOf23; have v23 := Try.zeroValue23
  have u0 := run_underlying Try.underlying0; have u3 := run_underlying Try.underlying3; have u4 := run_underlying Try.underlying4; have u26 := run_underlying Try.underlying26; have u23 := run_underlying Try.underlying23
  have hz1 : ¬ ((m : Int) = 0) := by omega
  go_enter Try.func37, Try.ntmps37
  cases ad with
  | none =>
    go_wp2_with (at_builtin; refine Lib.wpList_append_run _ rfl _ _ _ _ rfl _ _ rfl rfl _ _ hrun ?_)
    all_goals (go_ret; exact ⟨rfl, rfl⟩)
  | some a =>
    obtain ⟨ab, ao, asp⟩ := a
    go_wp2_with (at_builtin; refine Lib.wpList_append_run _ rfl _ _ _ _ rfl _ _ rfl rfl _ _ hrun ?_)
    all_goals (go_ret; exact ⟨rfl, rfl⟩)
set_option maxHeartbeats 4000000 in
set_option maxRecDepth 100000 in
theorem ins37_zero (ad va : Option Addr) (n c i vc : Nat) (w : World) (hi : i ≤ n) (hnc : n ≤ c) (hnil : ad = none → n = 0 ∧ c = 0) :
    Calls Try.prog 37 #[.slice ad n c, .int .i64 i, .slice va 0 vc] w fun e w' => e = .returned (.slice ad n c) ∧ w' = w := by
  have t0 := Try.underlying0; have a0 := Try.isAgg0; have z0 := Try.sizeOf0; have v0 := Try.zeroValue0
  have t3 := Try.underlying3; have a3 := Try.isAgg3; have z3 := Try.sizeOf3; have v3 := Try.zeroValue3
  have t4 := Try.underlying4; have a4 := Try.isAgg4; have z4 := Try.sizeOf4; have v4 := Try.zeroValue4
  have t26 := Try.underlying26; have a26 := Try.isAgg26; have z26 := Try.sizeOf26; have v26 := Try.zeroValue26
  have t23 := Try.underlying23; have a23 := Try.isAgg23; have z23 := Try.sizeOf23; have v23 := Try.zeroValue23
  have u0 := run_underlying Try.underlying0; have u3 := run_underlying Try.underlying3; have u4 := run_underlying Try.underlying4; have u26 := run_underlying Try.underlying26; have u23 := run_underlying Try.underlying23
  have hi2 : (i : Int) ≤ (n : Int) := by omega
  go_enter Try.func37, Try.ntmps37
  cases ad with
  | none =>
    obtain ⟨e1, e2⟩ := hnil rfl
    subst e1 e2
    have : i = 0 := by omega
    subst this
    go_wp2
    all_goals (go_ret; exact ⟨rfl, rfl⟩)
  | some a =>
    obtain ⟨ab, ao, asp⟩ := a
    go_wp2
    all_goals (go_ret; exact ⟨rfl, rfl⟩)
set_option maxHeartbeats 4000000 in
set_option maxRecDepth 100000 in
theorem ins37_shift (b off n c i vb voff m vc : Nat) (cs vs : List Value) (w : World) (hi : i < n) (hm : 0 < m) (hroom : n + m ≤ c) (hnm : n + m ≤ 68719476736) (hvd : vb = b → voff + m ≤ off ∨ off + c ≤ voff)
    (hcl : cs.length = n) (hvl : vs.length = m)
    (hcs : ∀ j v, cs[j]? = some v → w.cell? ⟨b, off + j, none⟩ = some v) (hsp : ∀ j, j < n + m → (w.cell? ⟨b, off + j, none⟩).isSome = true) (hfz : NF w b)
    (hvs : ∀ j v, vs[j]? = some v → w.cell? ⟨vb, voff + j, none⟩ = some v) (h1c : ∀ v ∈ cs, v.oneCell' = true) (h1v : ∀ v ∈ vs, v.oneCell' = true)
    (tA tB : TypeId) (kA kB : Nat) (hsa : w.shape? vb = some (tA, kA)) (hsb : w.shape? b = some (tB, kB)) (hkA : kA ≠ 0) (hkB : kB ≠ 0) :
    Calls Try.prog 37 #[.slice (some ⟨b, off, none⟩) n c, .int .i64 i, .slice (some ⟨vb, voff, none⟩) m vc] w fun e w' =>
      e = .returned (.slice (some ⟨b, off, none⟩) (n + m) c) ∧ w' = (w.drew.setCells b (off + (i + m)) (cs.drop i)).setCells b (off + i) vs := by
  have t0 := Try.underlying0; have a0 := Try.isAgg0; have z0 := Try.sizeOf0; have v0 := Try.zeroValue0
  have t3 := Try.underlying3; have a3 := Try.isAgg3; have z3 := Try.sizeOf3; have v3 := Try.zeroValue3
  have t4 := Try.underlying4; have a4 := Try.isAgg4; have z4 := Try.sizeOf4; have v4 := Try.zeroValue4
  have t26 := Try.underlying26; have a26 := Try.isAgg26; have z26 := Try.sizeOf26; have v26 := Try.zeroValue26
  have t23 := Try.underlying23; have a23 := Try.isAgg23; have z23 := Try.sizeOf23; have v23 := Try.zeroValue23
  have u0 := run_underlying Try.underlying0; have u3 := run_underlying Try.underlying3; have u4 := run_underlying Try.underlying4; have u26 := run_underlying Try.underlying26; have u23 := run_underlying Try.underlying23
  have hz1 : ¬ ((m : Int) = 0) := by omega
  have hz2 : ¬ ((i : Int) = (n : Int)) := by omega
  have hsz : (Try.prog.info? 26).map (·.size) = some 1 := by kernel_rfl
  have hov : ∀ lb cb, lb ≤ n - i → (callFunc 44 #[.slice (some ⟨vb, voff, none⟩) m vc, .slice (some ⟨b, off + (i + m), none⟩) lb cb]).run Try.prog w = .ok (.value (.bool false)) w := fun lb cb hlb => by
    rw [run_callFunc_extern Try.func44 (by kernel_rfl) (by kernel_rfl) (by kernel_rfl) (e := Extern.SlicesOverlaps.overlaps #[23, 23] #[4]) (by kernel_rfl),
      run_overlaps_nf w 23 4 26 Try.underlying23 1 Try.sizeOf26 vb voff b (off + (i + m)) m vc lb cb (fun e => by have := hvd e; omega) tA tB kA kB hsa hsb hkB hkA hfz]
    rfl
  have hdl : (cs.drop i).length = n - i := by rw [List.length_drop, hcl]
  have mixed := mixed
  have hw1 : IntKind.i64.wrap ((i : Int) + (m : Int)) = (i : Int) + (m : Int) := by rw [IntKind.wrap_i64]; omega
  have hb1 : (0 : Int) ≤ (i : Int) + (m : Int) := by omega
  have hin : i ≤ n := by omega
  have htn : ((i : Int) + (m : Int)).toNat = i + m := by omega
  have hb2 : ¬ (c = i + m) := by omega
  have hb3 : (i : Int) ≤ (n : Int) + (m : Int) := by omega
  have hb4 : ¬ (c = i) := by omega
  have hov2 : ∀ cb, (callFunc 44 #[.slice (some ⟨vb, voff, none⟩) m vc, .slice (some ⟨b, off + (i + m), none⟩) (n + m - (i + m)) cb]).run Try.prog w = .ok (.value (.bool false)) w := fun cb => hov _ _ (by omega)
  have hcp1 : ∀ ty dc sc, (Builtin.copy_ #[23, 23] ty #[.slice (some ⟨b, off + (i + m), none⟩) (n + m - (i + m)) dc, .slice (some ⟨b, off + i, none⟩) (n + m - i) sc]).run Try.prog w.drew = .ok (goInt (cs.drop i).length) (w.drew.setCells b (off + (i + m)) (cs.drop i)) := fun ty dc sc =>
    run_copy_cells w.drew _ _ ty 26 b (off + (i + m)) (n + m - (i + m)) dc ⟨b, off + i, none⟩ (n + m - i) sc (cs.drop i) Try.underlying23 hsz (by rw [hdl]; simp only [Nat.min_def]; split <;> omega)
      (fun j v hj => by rw [Addr.add_lit, Nat.add_assoc]; exact hcs (i + j) v (by rwa [List.getElem?_drop] at hj))
      (fun j hj => by rw [Nat.add_assoc]; exact hsp _ (by omega)) (fun j hj => by rw [Nat.add_assoc]; exact hfz _) (fun v hv => h1c v (List.mem_of_mem_drop hv))
  obtain ⟨W1, hW1⟩ : ∃ W1, W1 = w.drew.setCells b (off + (i + m)) (cs.drop i) := ⟨_, rfl⟩
  have hsp1 : ∀ k, k < n + m → (W1.cell? ⟨b, off + k, none⟩).isSome = true := fun k hk => by
    rw [hW1]
    exact isSome_setCells b _ _ _ (fun j hj => by rw [Nat.add_assoc]; exact hsp _ (by omega)) _ (hsp k hk)
  have hcp2 : ∀ (W : World), (∀ x, W.cell? x = W1.cell? x) → (∀ x, W.frozen? x = W1.frozen? x) → ∀ ty dc, (Builtin.copy_ #[23, 23] ty #[.slice (some ⟨b, off + i, none⟩) (n + m - i) dc, .slice (some ⟨vb, voff, none⟩) m vc]).run Try.prog W = .ok (goInt vs.length) (W.setCells b (off + i) vs) := fun W hWc hWf ty dc =>
    run_copy_cells W _ _ ty 26 b (off + i) (n + m - i) dc ⟨vb, voff, none⟩ m vc vs Try.underlying23 hsz (by rw [hvl]; simp only [Nat.min_def]; split <;> omega)
      (fun j v hj => by
        have hjm : j < m := by
          rcases Nat.lt_or_ge j vs.length with q | q
          · omega
          · rw [List.getElem?_eq_none q] at hj; cases hj
        rw [Addr.add_lit, hWc, hW1, World.cell?_setCells_out b _ _ _ _ (fun h _ => by have := hvd h; rw [hdl]; show voff + j < off + (i + m) ∨ off + (i + m) + (n - i) ≤ voff + j; omega)]
        exact hvs j v hj)
      (fun j hj => by rw [hWc, Nat.add_assoc]; exact hsp1 _ (by omega)) (fun j hj => by rw [hWf, hW1, World.frozen?_setCells, Nat.add_assoc]; exact hfz _) h1v
  rw [← hW1] at hcp1
  go_enter Try.func37, Try.ntmps37
  go_wp2_with (simp only [hov2])
  go_region_law_o (refine step_copy_runI rfl _ _ 23 23 rfl _ _ (by simp [Act.eval, Act.put]) (by simp [Act.eval, Act.put]) (hcp1 _ _ _) ?_)
  go_wp2_with (at_builtin; refine wpList_copy_runI _ rfl _ _ 23 23 rfl _ _ rfl rfl (hcp2 _ (fun _ => rfl) (fun _ => rfl) _ _) ?_)
  go_ret
  first | exact ⟨rfl, rfl⟩ | exact ⟨rfl, by rw [hW1]⟩
set_option maxHeartbeats 4000000 in
set_option maxRecDepth 100000 in
theorem ins37_grow (b off n c i vb voff m vc : Nat) (cs vs : List Value) (w : World) (hi : i < n) (hm : 0 < m) (hnc : n ≤ c) (hroom : c < n + m) (hbig : (n + m) * 24 ≤ 140737488355328)
    (hcl : cs.length = n) (hvl : vs.length = m)
    (hcs : ∀ j v, cs[j]? = some v → w.cell? ⟨b, off + j, none⟩ = some v)
    (hvs : ∀ j v, vs[j]? = some v → w.cell? ⟨vb, voff + j, none⟩ = some v) (h1c : ∀ v ∈ cs, v.oneCell' = true) (h1v : ∀ v ∈ vs, v.oneCell' = true) :
    Calls Try.prog 37 #[.slice (some ⟨b, off, none⟩) n c, .int .i64 i, .slice (some ⟨vb, voff, none⟩) m vc] w fun e w' =>
      e = .returned (.slice (some ⟨w.heap.size, 0, none⟩) (n + m) (grownCap w (n + m) c 26)) ∧
      w' = (((w.alloc (.cells ((cs.take i).toArray ++ Builtin.zeroCells (Value.slice none 0 0).cells (n + m - i) ++ Builtin.zeroCells (Value.slice none 0 0).cells (grownCap w (n + m) c 26 - (n + m))) 26)).drew.setCells w.heap.size i vs).drew).setCells w.heap.size (i + m) (cs.drop i) := by
  have t0 := Try.underlying0; have a0 := Try.isAgg0; have z0 := Try.sizeOf0; have v0 := Try.zeroValue0
  have t3 := Try.underlying3; have a3 := Try.isAgg3; have z3 := Try.sizeOf3; have v3 := Try.zeroValue3
  have t4 := Try.underlying4; have a4 := Try.isAgg4; have z4 := Try.sizeOf4; have v4 := Try.zeroValue4
  have t26 := Try.underlying26; have a26 := Try.isAgg26; have z26 := Try.sizeOf26; have v26 := Try.zeroValue26
  have t23 := Try.underlying23; have a23 := Try.isAgg23; have z23 := Try.sizeOf23; have v23 := Try.zeroValue23
  have u0 := run_underlying Try.underlying0; have u3 := run_underlying Try.underlying3; have u4 := run_underlying Try.underlying4; have u26 := run_underlying Try.underlying26; have u23 := run_underlying Try.underlying23
  have mixed := mixed
  obtain ⟨i0, hi0, hz0, hzs, hzb⟩ : ∃ i0, Try.prog.info? 26 = some i0 ∧ i0.zero = some (Value.slice none 0 0) ∧ i0.size = 1 ∧ i0.bytes = 24 := ⟨Try.t26, by kernel_rfl, rfl, rfl, rfl⟩
  have hz1 : ¬ ((m : Int) = 0) := by omega
  have hz2 : ¬ ((i : Int) = (n : Int)) := by omega
  have hz3 : (c : Int) < (n : Int) + (m : Int) := by omega
  have hsz : (Try.prog.info? 26).map (·.size) = some 1 := by rw [hi0]; simp [hzs]
  have hbw : b < w.heap.size := block_lt_of_cell (hcs 0 _ (List.getElem?_eq_getElem (by omega)))
  have hvw : vb < w.heap.size := block_lt_of_cell (hvs 0 _ (List.getElem?_eq_getElem (by omega)))
  have hkk : (n : Int) + (m : Int) - (i : Int) = ((n + m - i : Nat) : Int) := by omega
  have hik : i + (n + m - i) = n + m := by omega
  have hold : (Builtin.firstCells i0.size i (.slice (some ⟨b, off, none⟩) i c)).run Try.prog w.drew = .ok (cs.take i).toArray w.drew := by
    rw [hzs]
    exact run_firstCells_some w.drew 1 i ⟨b, off, none⟩ i c (cs.take i) (by rw [List.length_take]; omega) (fun j v hj => by
      rw [Addr.add_lit]
      rw [List.getElem?_take] at hj
      split at hj
      · exact hcs j v hj
      · cases hj)
  have hrz : ∀ ty, (Builtin.append_ #[23, 3] ty #[.slice (some ⟨b, off, none⟩) i c, .int .i64 ((n : Int) + (m : Int) - (i : Int))]).run Try.prog w =
      .ok (.slice (some ⟨w.heap.size, 0, none⟩) (n + m) (grownCap w (n + m) c 26)) (w.drew.alloc (.cells ((cs.take i).toArray ++ Builtin.zeroCells (Value.slice none 0 0).cells (n + m - i) ++ Builtin.zeroCells (Value.slice none 0 0).cells (grownCap w (n + m) c 26 - (n + m))) 26)) := fun ty => by
    have h := Lib.run_append_grow_zeros w 23 3 ty 26 i0 _ .i64 .i64 Try.underlying23 Try.underlying3 hi0 hz0 (some ⟨b, off, none⟩) i c (cs.take i) hold (n + m - i) (by omega) (by omega) (by omega) (by omega) (by rw [hzb]; omega) (by rw [hzb, hik]; exact growslice_fits hroom hbig)
    rw [hik] at h
    rw [hkk]
    exact h
  obtain ⟨G, hG⟩ : ∃ G, G = grownCap w (n + m) c 26 := ⟨_, rfl⟩
  obtain ⟨ROW, hROW⟩ : ∃ ROW : Array Value, ROW = (cs.take i).toArray ++ Builtin.zeroCells (Value.slice none 0 0).cells (n + m - i) ++ Builtin.zeroCells (Value.slice none 0 0).cells (G - (n + m)) := ⟨_, rfl⟩
  rw [← hG] at hrz ⊢
  rw [← hROW] at hrz ⊢
  have hRl : n + m ≤ ROW.size := by
    rw [hROW]
    simp [Builtin.zeroCells, Value.cells]
    omega
  obtain ⟨W1, hW1⟩ : ∃ W1, W1 = w.drew.alloc (.cells ROW 26) := ⟨_, rfl⟩
  rw [← hW1] at hrz
  have hN : ∀ j, j < n + m → (W1.cell? ⟨w.heap.size, j, none⟩).isSome = true := fun j hj => by
    rw [hW1, World.cell?_alloc_at (w := w.drew) ROW _ w.heap.size j rfl, Array.getElem?_eq_getElem (by omega)]; rfl
  have hNf : ∀ j, W1.frozen? ⟨w.heap.size, j, none⟩ = false := fun j => by rw [hW1]; exact World.frozen?_alloc_at (w := w.drew) ROW _ w.heap.size j rfl
  have hOb : ∀ j v, w.cell? ⟨b, j, none⟩ = some v → W1.cell? ⟨b, j, none⟩ = some v := fun j v h => by rw [hW1, World.cell?_alloc_past (w := w.drew) _ b j hbw]; exact h
  have hOv : ∀ j v, w.cell? ⟨vb, j, none⟩ = some v → W1.cell? ⟨vb, j, none⟩ = some v := fun j v h => by rw [hW1, World.cell?_alloc_past (w := w.drew) _ vb j hvw]; exact h
  have hcpA : ∀ (W : World), (∀ x, W.cell? x = W1.cell? x) → (∀ x, W.frozen? x = W1.frozen? x) → ∀ ty dc, (Builtin.copy_ #[23, 23] ty #[.slice (some ⟨w.heap.size, i, none⟩) (n + m - i) dc, .slice (some ⟨vb, voff, none⟩) m vc]).run Try.prog W = .ok (goInt vs.length) (W.setCells w.heap.size i vs) := fun W hWc hWf ty dc =>
    run_copy_cells W _ _ ty 26 w.heap.size i (n + m - i) dc ⟨vb, voff, none⟩ m vc vs Try.underlying23 hsz (by rw [hvl]; simp only [Nat.min_def]; split <;> omega)
      (fun j v hj => by rw [Addr.add_lit, hWc]; exact hOv _ v (hvs j v hj))
      (fun j hj => by rw [hWc]; exact hN _ (by omega)) (fun j hj => by rw [hWf]; exact hNf _) h1v
  have hGn : n + m ≤ G := by rw [hG]; exact grownCap_ge w _ _ _
  have hG63 : G ≤ 9223372036854775807 := by
    have := grownCap_le_maxLen w (n + m) c 26 (by unfold maxLen; omega)
    rw [← hG] at this
    unfold maxLen at this
    omega
  have hGi : ¬ (G = i) := by omega
  have hGim : ¬ (G = i + m) := by omega
  have hci : ¬ (c = i) := by omega
  have hbN : b ≠ w.heap.size := by omega
  have hdl : (cs.drop i).length = n - i := by rw [List.length_drop, hcl]
  have hcpB : ∀ (W : World), (∀ x, W.cell? x = (W1.setCells w.heap.size i vs).cell? x) → (∀ x, W.frozen? x = (W1.setCells w.heap.size i vs).frozen? x) → ∀ ty dc sc, (Builtin.copy_ #[23, 23] ty #[.slice (some ⟨w.heap.size, i + m, none⟩) (n + m - (i + m)) dc, .slice (some ⟨b, off + i, none⟩) (n - i) sc]).run Try.prog W = .ok (goInt (cs.drop i).length) (W.setCells w.heap.size (i + m) (cs.drop i)) := fun W hWc hWf ty dc sc =>
    run_copy_cells W _ _ ty 26 w.heap.size (i + m) (n + m - (i + m)) dc ⟨b, off + i, none⟩ (n - i) sc (cs.drop i) Try.underlying23 hsz (by rw [hdl]; simp only [Nat.min_def]; split <;> omega)
      (fun j v hj => by
        rw [Addr.add_lit, hWc, World.cell?_setCells_out _ _ _ _ _ (fun h _ => absurd h hbN), Nat.add_assoc]
        exact hOb _ v (hcs (i + j) v (by rwa [List.getElem?_drop] at hj)))
      (fun j hj => by rw [hWc]; exact isSome_setCells _ _ _ _ (fun t ht => hN _ (by omega)) _ (hN _ (by omega)))
      (fun j hj => by rw [hWf, World.frozen?_setCells]; exact hNf _) (fun v hv => h1c v (List.mem_of_mem_drop hv))
  subst hW1
  have hE1 : ∀ x, ((w.alloc (.cells ROW 26)).drew).cell? x = (w.drew.alloc (.cells ROW 26)).cell? x := fun x => rfl
  have hE2 : ∀ x, ((w.alloc (.cells ROW 26)).drew).frozen? x = (w.drew.alloc (.cells ROW 26)).frozen? x := fun x => rfl
  have hF1 : ∀ x, (((w.alloc (.cells ROW 26)).drew.setCells w.heap.size i vs).drew).cell? x = ((w.drew.alloc (.cells ROW 26)).setCells w.heap.size i vs).cell? x := fun x => rfl
  have hF2 : ∀ x, (((w.alloc (.cells ROW 26)).drew.setCells w.heap.size i vs).drew).frozen? x = ((w.drew.alloc (.cells ROW 26)).setCells w.heap.size i vs).frozen? x := fun x => rfl
  have hw1 : IntKind.i64.wrap ((i : Int) + (m : Int)) = (i : Int) + (m : Int) := by rw [IntKind.wrap_i64]; omega
  have hb1 : (0 : Int) ≤ (i : Int) + (m : Int) := by omega
  have hin : i ≤ n := by omega
  have htn : ((i : Int) + (m : Int)).toNat = i + m := by omega
  have hb3 : (i : Int) ≤ (n : Int) := by omega
  clear hkk hik hold hROW hG hRl
  go_enter Try.func37, Try.ntmps37
  go_wp2_with (first
    | (at_builtin; refine Lib.wpList_append_run _ rfl _ _ _ _ rfl _ _ rfl rfl _ _ (hrz _) ?_)
    | (at_builtin; refine wpList_copy_runI _ rfl _ _ 23 23 rfl _ _ rfl rfl (hcpA _ hE1 hE2 _ _) ?_)
    | (at_builtin; refine wpList_copy_runI _ rfl _ _ 23 23 rfl _ _ rfl rfl (hcpB _ (fun _ => rfl) (fun _ => rfl) _ _ _) ?_))
  go_region_law_o (refine step_copy_runI rfl _ _ 23 23 rfl (.slice (some ⟨w.heap.size, i + m, none⟩) (n + m - (i + m)) (G - (i + m))) (.slice (some ⟨b, off + i, none⟩) (n - i) (c - i)) (by simp [Act.eval, Act.put]) (by simp [Act.eval, Act.put]) (hcpB _ hF1 hF2 3 (G - (i + m)) (c - i)) ?_)
  go_wp2
  go_ret
  exact ⟨rfl, rfl⟩
theorem slices_Insert_S_Sint64__Sint64.runs : InsRuns Try.prog 37 23 26 := ⟨ins37_zero, ins37_end, ins37_shift, ins37_grow⟩
def slices_Insert_S_Sint64__Sint64.con (N : Nat) : Con := insCon (e := 26) (s := s26) (.own .imm) (slices_Insert_S_Sint64__Sint64 N)
theorem slices_Insert_S_Sint64__Sint64.ok (N : Nat) : ConOk Try.prog 37 [.one, .one, .one] (slices_Insert_S_Sint64__Sint64.con N) := ins_conOk (tS := 23) rfl (by kernel_rfl) slices_Insert_S_Sint64__Sint64.runs (fun _ _ _ => rfl)
theorem slices_Insert_S_Sint64__Sint64.det (N : Nat) : ConDet (slices_Insert_S_Sint64__Sint64.con N) := ins_det
def impl_push.con (N : Nat) : Con := { modes := [.v, .v], ptrs := [false], fn := fn2 s24 .imm s26 .imm (impl_push N) (fun r => [⟨s24, (.pr (.own (.own .imm)) .imm), r⟩]) (fun r => []) }
def impl_push.cfg (N : Nat) : Cfg := { ty := tys, keep := [8, 10, 12], flt := [], elm := elm0, live := [], ord := [], con := [((36, [.one]), impl_ownLists.con N), ((31, [.one]), slices_Clone_Sint64_int64.con N), ((37, [.one, .one, .one]), slices_Insert_S_Sint64__Sint64.con N)], loops := [], joins := [] }
theorem impl_push.cons (N : Nat) : ConsOk Try.prog (impl_push.cfg N).con := (consOk_cons (hb36) (impl_ownLists.ok N) (impl_ownLists.det N) (consOk_cons (hb31) (slices_Clone_Sint64_int64.ok N) (slices_Clone_Sint64_int64.det N) (consOk_cons (hb37) (slices_Insert_S_Sint64__Sint64.ok N) (slices_Insert_S_Sint64__Sint64.det N) consOk_nil)))
theorem impl_push.ls (N : Nat) : LoopsOk Try.prog (impl_push.cfg N) (fnBody Try.f24) := loopsL (l := []) (by kernel_rfl) trivial
theorem impl_push.b (N : Nat) (x0 : den s24) (x1 : den s26) : body (impl_push.cfg N) N Try.f24 [.one, .one] [.v, .v] [(false, (.pr (.own (.own .imm)) .imm))] [⟨s24, .imm, x0⟩, ⟨s26, .imm, x1⟩] (fun r i => some (r, i)) = bindO (impl_push N x0 x1) fun r => some ([⟨s24, (.pr (.own (.own .imm)) .imm), r⟩], []) := by
  show _ = bindF _ _
  conv => rhs; simp only [impl_push, bindF_ifB, bindF_bindO, bindF_pure, bindF_none, bindF_onSum]
  kernel_rfl
theorem impl_push.ok (N : Nat) : ConOk Try.prog 24 [.one, .one] (impl_push.con N) := ok2 (g := impl_push.cfg N) (N := N) (res := [(false, (.pr (.own (.own .imm)) .imm))]) tys_ok (impl_push.cons N) mixed Try.func24 (impl_push.ls N) rfl (impl_push.b N)
theorem impl_push.det (N : Nat) : ConDet (impl_push.con N) := det2
end Go.AE.F
end
