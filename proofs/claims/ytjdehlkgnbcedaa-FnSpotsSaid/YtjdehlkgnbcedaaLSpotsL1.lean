/- The printed functions are what the program comes to: contracts. -/
import Derived.Test.YtjdehlkgnbcedaaLSpotsL0
noncomputable section
namespace Go.AE.F
open Go.AE Go.Proofs
set_option maxRecDepth 100000
def impl_PointsRight_c1.con (N : Nat) : Con := { modes := [.v], ptrs := [false], fn := fn1 (.int .i64) .imm (impl_PointsRight_c1 N) (fun r => [⟨.bool, .imm, r⟩]) (fun r => []) }
def impl_PointsRight_c1.cfg (N : Nat) : Cfg := { ty := tys, keep := [4], flt := [], elm := elm0, live := [], ord := [], con := [((41, [.one]), impl_isPoint.con N)], loops := [], joins := [] }
theorem impl_PointsRight_c1.cons (N : Nat) : ConsOk Try.prog (impl_PointsRight_c1.cfg N).con := (consOk_cons (hb41) (impl_isPoint.ok N) (impl_isPoint.det N) consOk_nil)
theorem impl_PointsRight_c1.ls (N : Nat) : LoopsOk Try.prog (impl_PointsRight_c1.cfg N) (fnBody Try.f40) := loopsL (l := []) (by kernel_rfl) trivial
theorem impl_PointsRight_c1.b (N : Nat) (x0 : den (.int .i64)) : body (impl_PointsRight_c1.cfg N) N Try.f40 [.one] [.v] [(false, .imm)] [⟨(.int .i64), .imm, x0⟩] (fun r i => some (r, i)) = bindO (impl_PointsRight_c1 N x0) fun r => some ([⟨.bool, .imm, r⟩], []) := by
  show _ = bindF _ _
  conv => rhs; simp only [impl_PointsRight_c1, bindF_ifB, bindF_bindO, bindF_pure, bindF_none, bindF_onSum]
  kernel_rfl
theorem impl_PointsRight_c1.ok (N : Nat) : ConOk Try.prog 40 [.one] (impl_PointsRight_c1.con N) := ok1 (g := impl_PointsRight_c1.cfg N) (N := N) (res := [(false, .imm)]) tys_ok (impl_PointsRight_c1.cons N) mixed Try.func40 (impl_PointsRight_c1.ls N) rfl (impl_PointsRight_c1.b N)
theorem impl_PointsRight_c1.det (N : Nat) : ConDet (impl_PointsRight_c1.con N) := det1
def slices_IndexFunc_Sint64_int64__impl_PointsRight_c1.sk2 : Skel := ⟨.pv s23 :: (.fn 40 [] :: (dd 5 (.pv (.int .i64) :: (.pv (.int .i64) :: (dd 10 []))))), []⟩
def slices_IndexFunc_Sint64_int64__impl_PointsRight_c1.xs2 : List XS := [⟨.exit 0, [], ⟨dd 19 [], []⟩⟩, ⟨.ret, [4], ⟨dd 4 (.pv (.int .i64) :: (dd 14 [])), []⟩⟩]
def slices_IndexFunc_Sint64_int64__impl_PointsRight_c1.con (N : Nat) : Con := { modes := [.v], ptrs := [false], fn := fn1 s23 .imm (slices_IndexFunc_Sint64_int64__impl_PointsRight_c1 N) (fun r => [⟨(.int .i64), .imm, r⟩]) (fun r => []) }
def slices_IndexFunc_Sint64_int64__impl_PointsRight_c1.cfg (N : Nat) : Cfg := { ty := tys, keep := [16], flt := [], elm := elm0, live := [(2, [0, 1, 7, 8])], ord := [], con := [((40, [.one]), impl_PointsRight_c1.con N)], loops := [(2, loopCon N slices_IndexFunc_Sint64_int64__impl_PointsRight_c1.sk2 slices_IndexFunc_Sint64_int64__impl_PointsRight_c1.xs2 (fun {R} => slices_IndexFunc_Sint64_int64__impl_PointsRight_c1.l2 (R := R) N))], joins := [] }
theorem slices_IndexFunc_Sint64_int64__impl_PointsRight_c1.cons (N : Nat) : ConsOk Try.prog (slices_IndexFunc_Sint64_int64__impl_PointsRight_c1.cfg N).con := (consOk_cons (hb40) (impl_PointsRight_c1.ok N) (impl_PointsRight_c1.det N) consOk_nil)
theorem slices_IndexFunc_Sint64_int64__impl_PointsRight_c1.h2 {R : Type} (N : Nat) (d : slices_IndexFunc_Sint64_int64__impl_PointsRight_c1.sk2.D) (kn : slices_IndexFunc_Sint64_int64__impl_PointsRight_c1.sk2.D → Option R) (kx : XD slices_IndexFunc_Sint64_int64__impl_PointsRight_c1.xs2 → Option R) : roundK (slices_IndexFunc_Sint64_int64__impl_PointsRight_c1.cfg N) N (nthLoop (fnBody Try.f47) 0) slices_IndexFunc_Sint64_int64__impl_PointsRight_c1.sk2 slices_IndexFunc_Sint64_int64__impl_PointsRight_c1.xs2 d kn kx = slices_IndexFunc_Sint64_int64__impl_PointsRight_c1.l2 N d kn kx := by kernel_rfl
theorem slices_IndexFunc_Sint64_int64__impl_PointsRight_c1.i2 (N : Nat) : LoopsOk Try.prog (slices_IndexFunc_Sint64_int64__impl_PointsRight_c1.cfg N) (nthLoop (fnBody Try.f47) 0) := loopsL (l := []) (by kernel_rfl) trivial
theorem slices_IndexFunc_Sint64_int64__impl_PointsRight_c1.o2 (N : Nat) : LoopOk Try.prog (nthLoop (fnBody Try.f47) 0) (loopCon N slices_IndexFunc_Sint64_int64__impl_PointsRight_c1.sk2 slices_IndexFunc_Sint64_int64__impl_PointsRight_c1.xs2 (fun {R} => slices_IndexFunc_Sint64_int64__impl_PointsRight_c1.l2 (R := R) N)) := loop_ok (g := slices_IndexFunc_Sint64_int64__impl_PointsRight_c1.cfg N) tys_ok (slices_IndexFunc_Sint64_int64__impl_PointsRight_c1.cons N) mixed (slices_IndexFunc_Sint64_int64__impl_PointsRight_c1.i2 N) (fun d kn kx => slices_IndexFunc_Sint64_int64__impl_PointsRight_c1.h2 N d kn kx)
theorem slices_IndexFunc_Sint64_int64__impl_PointsRight_c1.ls (N : Nat) : LoopsOk Try.prog (slices_IndexFunc_Sint64_int64__impl_PointsRight_c1.cfg N) (fnBody Try.f47) := loopsL (l := [nthLoop (fnBody Try.f47) 0]) (by kernel_rfl) ⟨loopOne (L0 := loopCon N slices_IndexFunc_Sint64_int64__impl_PointsRight_c1.sk2 slices_IndexFunc_Sint64_int64__impl_PointsRight_c1.xs2 (fun {R} => slices_IndexFunc_Sint64_int64__impl_PointsRight_c1.l2 (R := R) N)) (id := 2) (by kernel_rfl) (by kernel_rfl) (slices_IndexFunc_Sint64_int64__impl_PointsRight_c1.o2 N), trivial⟩
theorem slices_IndexFunc_Sint64_int64__impl_PointsRight_c1.q2 {R R' : Type} {N n : Nat} {d} {k} {g : R → Option R'} : bindF (loopP (slices_IndexFunc_Sint64_int64__impl_PointsRight_c1.l2 N) n d k) g = loopP (slices_IndexFunc_Sint64_int64__impl_PointsRight_c1.l2 N) n d fun e => bindF (k e) g := bindF_loopP (fun d kn kx => by simp only [slices_IndexFunc_Sint64_int64__impl_PointsRight_c1.l2, bindF_ifB, bindF_bindO, bindF_pure, bindF_none, bindF_onSum]) n d k
theorem slices_IndexFunc_Sint64_int64__impl_PointsRight_c1.b (N : Nat) (x0 : den s23) : body (slices_IndexFunc_Sint64_int64__impl_PointsRight_c1.cfg N) N Try.f47 [.one, .fn 40 0] [.v] [(false, .imm)] [⟨s23, .imm, x0⟩] (fun r i => some (r, i)) = bindO (slices_IndexFunc_Sint64_int64__impl_PointsRight_c1 N x0) fun r => some ([⟨(.int .i64), .imm, r⟩], []) := by
  show _ = bindF _ _
  conv => rhs; simp only [slices_IndexFunc_Sint64_int64__impl_PointsRight_c1, bindF_ifB, bindF_bindO, bindF_pure, bindF_none, bindF_onSum, slices_IndexFunc_Sint64_int64__impl_PointsRight_c1.q2]
  kernel_rfl
theorem slices_IndexFunc_Sint64_int64__impl_PointsRight_c1.ok (N : Nat) : ConOk Try.prog 47 [.one, .fn 40 0] (slices_IndexFunc_Sint64_int64__impl_PointsRight_c1.con N) := ok1 (g := slices_IndexFunc_Sint64_int64__impl_PointsRight_c1.cfg N) (N := N) (res := [(false, .imm)]) tys_ok (slices_IndexFunc_Sint64_int64__impl_PointsRight_c1.cons N) mixed Try.func47 (slices_IndexFunc_Sint64_int64__impl_PointsRight_c1.ls N) rfl (slices_IndexFunc_Sint64_int64__impl_PointsRight_c1.b N)
theorem slices_IndexFunc_Sint64_int64__impl_PointsRight_c1.det (N : Nat) : ConDet (slices_IndexFunc_Sint64_int64__impl_PointsRight_c1.con N) := det1
def slices_ContainsFunc_Sint64_int64__impl_PointsRight_c1.con (N : Nat) : Con := { modes := [.v], ptrs := [false], fn := fn1 s23 .imm (slices_ContainsFunc_Sint64_int64__impl_PointsRight_c1 N) (fun r => [⟨.bool, .imm, r⟩]) (fun r => []) }
def slices_ContainsFunc_Sint64_int64__impl_PointsRight_c1.cfg (N : Nat) : Cfg := { ty := tys, keep := [7], flt := [], elm := elm0, live := [], ord := [], con := [((47, [.one, .fn 40 0]), slices_IndexFunc_Sint64_int64__impl_PointsRight_c1.con N)], loops := [], joins := [] }
theorem slices_ContainsFunc_Sint64_int64__impl_PointsRight_c1.cons (N : Nat) : ConsOk Try.prog (slices_ContainsFunc_Sint64_int64__impl_PointsRight_c1.cfg N).con := (consOk_cons (hb47) (slices_IndexFunc_Sint64_int64__impl_PointsRight_c1.ok N) (slices_IndexFunc_Sint64_int64__impl_PointsRight_c1.det N) consOk_nil)
theorem slices_ContainsFunc_Sint64_int64__impl_PointsRight_c1.ls (N : Nat) : LoopsOk Try.prog (slices_ContainsFunc_Sint64_int64__impl_PointsRight_c1.cfg N) (fnBody Try.f39) := loopsL (l := []) (by kernel_rfl) trivial
theorem slices_ContainsFunc_Sint64_int64__impl_PointsRight_c1.b (N : Nat) (x0 : den s23) : body (slices_ContainsFunc_Sint64_int64__impl_PointsRight_c1.cfg N) N Try.f39 [.one, .fn 40 0] [.v] [(false, .imm)] [⟨s23, .imm, x0⟩] (fun r i => some (r, i)) = bindO (slices_ContainsFunc_Sint64_int64__impl_PointsRight_c1 N x0) fun r => some ([⟨.bool, .imm, r⟩], []) := by
  show _ = bindF _ _
  conv => rhs; simp only [slices_ContainsFunc_Sint64_int64__impl_PointsRight_c1, bindF_ifB, bindF_bindO, bindF_pure, bindF_none, bindF_onSum]
  kernel_rfl
theorem slices_ContainsFunc_Sint64_int64__impl_PointsRight_c1.ok (N : Nat) : ConOk Try.prog 39 [.one, .fn 40 0] (slices_ContainsFunc_Sint64_int64__impl_PointsRight_c1.con N) := ok1 (g := slices_ContainsFunc_Sint64_int64__impl_PointsRight_c1.cfg N) (N := N) (res := [(false, .imm)]) tys_ok (slices_ContainsFunc_Sint64_int64__impl_PointsRight_c1.cons N) mixed Try.func39 (slices_ContainsFunc_Sint64_int64__impl_PointsRight_c1.ls N) rfl (slices_ContainsFunc_Sint64_int64__impl_PointsRight_c1.b N)
theorem slices_ContainsFunc_Sint64_int64__impl_PointsRight_c1.det (N : Nat) : ConDet (slices_ContainsFunc_Sint64_int64__impl_PointsRight_c1.con N) := det1
def impl_PointsRight.con (N : Nat) : Con := { modes := [.v], ptrs := [false], fn := fn1 s23 .imm (impl_PointsRight N) (fun r => [⟨.bool, .imm, r⟩]) (fun r => []) }
def impl_PointsRight.cfg (N : Nat) : Cfg := { ty := tys, keep := [8], flt := [], elm := elm0, live := [], ord := [], con := [((39, [.one, .fn 40 0]), slices_ContainsFunc_Sint64_int64__impl_PointsRight_c1.con N)], loops := [], joins := [] }
theorem impl_PointsRight.cons (N : Nat) : ConsOk Try.prog (impl_PointsRight.cfg N).con := (consOk_cons (hb39) (slices_ContainsFunc_Sint64_int64__impl_PointsRight_c1.ok N) (slices_ContainsFunc_Sint64_int64__impl_PointsRight_c1.det N) consOk_nil)
theorem impl_PointsRight.ls (N : Nat) : LoopsOk Try.prog (impl_PointsRight.cfg N) (fnBody Try.f25) := loopsL (l := []) (by kernel_rfl) trivial
theorem impl_PointsRight.b (N : Nat) (x0 : den s23) : body (impl_PointsRight.cfg N) N Try.f25 [.one] [.v] [(false, .imm)] [⟨s23, .imm, x0⟩] (fun r i => some (r, i)) = bindO (impl_PointsRight N x0) fun r => some ([⟨.bool, .imm, r⟩], []) := by
  show _ = bindF _ _
  conv => rhs; simp only [impl_PointsRight, bindF_ifB, bindF_bindO, bindF_pure, bindF_none, bindF_onSum]
  kernel_rfl
theorem impl_PointsRight.ok (N : Nat) : ConOk Try.prog 25 [.one] (impl_PointsRight.con N) := ok1 (g := impl_PointsRight.cfg N) (N := N) (res := [(false, .imm)]) tys_ok (impl_PointsRight.cons N) mixed Try.func25 (impl_PointsRight.ls N) rfl (impl_PointsRight.b N)
theorem impl_PointsRight.det (N : Nat) : ConDet (impl_PointsRight.con N) := det1
def impl_size_Sint64.con (N : Nat) : Con := { modes := [.v], ptrs := [false], fn := fn1 s23 .imm (impl_size_Sint64 N) (fun r => [⟨(.int .i64), .imm, r⟩]) (fun r => []) }
def impl_size_Sint64.cfg (N : Nat) : Cfg := { ty := tys, keep := [], flt := [], elm := elm0, live := [], ord := [], con := [], loops := [], joins := [] }
theorem impl_size_Sint64.cons (N : Nat) : ConsOk Try.prog (impl_size_Sint64.cfg N).con := consOk_nil
theorem impl_size_Sint64.ls (N : Nat) : LoopsOk Try.prog (impl_size_Sint64.cfg N) (fnBody Try.f37) := loopsL (l := []) (by kernel_rfl) trivial
theorem impl_size_Sint64.b (N : Nat) (x0 : den s23) : body (impl_size_Sint64.cfg N) N Try.f37 [.one] [.v] [(false, .imm)] [⟨s23, .imm, x0⟩] (fun r i => some (r, i)) = bindO (impl_size_Sint64 N x0) fun r => some ([⟨(.int .i64), .imm, r⟩], []) := by
  show _ = bindF _ _
  conv => rhs; simp only [impl_size_Sint64, bindF_ifB, bindF_bindO, bindF_pure, bindF_none, bindF_onSum]
  kernel_rfl
theorem impl_size_Sint64.ok (N : Nat) : ConOk Try.prog 37 [.one] (impl_size_Sint64.con N) := ok1 (g := impl_size_Sint64.cfg N) (N := N) (res := [(false, .imm)]) tys_ok (impl_size_Sint64.cons N) mixed Try.func37 (impl_size_Sint64.ls N) rfl (impl_size_Sint64.b N)
theorem impl_size_Sint64.det (N : Nat) : ConDet (impl_size_Sint64.con N) := det1
def impl_Buf_isPlace.con (N : Nat) : Con := { modes := [.rd, .v], ptrs := [false], fn := fn2 s24 .imm (.int .i64) .imm (impl_Buf_isPlace N) (fun r => [⟨.bool, .imm, r⟩]) (fun r => []) }
def impl_Buf_isPlace.cfg (N : Nat) : Cfg := { ty := tys, keep := [10, 11], flt := [], elm := elm0, live := [], ord := [], con := [((37, [.one]), impl_size_Sint64.con N), ((30, [.one, .one, .one]), impl_within.con N)], loops := [], joins := [] }
theorem impl_Buf_isPlace.cons (N : Nat) : ConsOk Try.prog (impl_Buf_isPlace.cfg N).con := (consOk_cons (hb37) (impl_size_Sint64.ok N) (impl_size_Sint64.det N) (consOk_cons (hb30) (impl_within.ok N) (impl_within.det N) consOk_nil))
theorem impl_Buf_isPlace.ls (N : Nat) : LoopsOk Try.prog (impl_Buf_isPlace.cfg N) (fnBody Try.f21) := loopsL (l := []) (by kernel_rfl) trivial
theorem impl_Buf_isPlace.b (N : Nat) (x0 : den s24) (x1 : den (.int .i64)) : body (impl_Buf_isPlace.cfg N) N Try.f21 [.one, .one] [.rd, .v] [(false, .imm)] [⟨s24, .imm, x0⟩, ⟨(.int .i64), .imm, x1⟩] (fun r i => some (r, i)) = bindO (impl_Buf_isPlace N x0 x1) fun r => some ([⟨.bool, .imm, r⟩], []) := by
  show _ = bindF _ _
  conv => rhs; simp only [impl_Buf_isPlace, bindF_ifB, bindF_bindO, bindF_pure, bindF_none, bindF_onSum]
  kernel_rfl
theorem impl_Buf_isPlace.ok (N : Nat) : ConOk Try.prog 21 [.one, .one] (impl_Buf_isPlace.con N) := ok2 (g := impl_Buf_isPlace.cfg N) (N := N) (res := [(false, .imm)]) tys_ok (impl_Buf_isPlace.cons N) mixed Try.func21 (impl_Buf_isPlace.ls N) rfl (impl_Buf_isPlace.b N)
theorem impl_Buf_isPlace.det (N : Nat) : ConDet (impl_Buf_isPlace.con N) := det2
def impl_BufRight.con (N : Nat) : Con := { modes := [.v], ptrs := [false], fn := fn1 s24 .imm (impl_BufRight N) (fun r => [⟨.bool, .imm, r⟩]) (fun r => []) }
def impl_BufRight.cfg (N : Nat) : Cfg := { ty := tys, keep := [5, 9, 14], flt := [], elm := elm0, live := [], ord := [], con := [((25, [.one]), impl_PointsRight.con N), ((21, [.one, .one]), impl_Buf_isPlace.con N)], loops := [], joins := [] }
theorem impl_BufRight.cons (N : Nat) : ConsOk Try.prog (impl_BufRight.cfg N).con := (consOk_cons (hb25) (impl_PointsRight.ok N) (impl_PointsRight.det N) (consOk_cons (hb21) (impl_Buf_isPlace.ok N) (impl_Buf_isPlace.det N) consOk_nil))
theorem impl_BufRight.ls (N : Nat) : LoopsOk Try.prog (impl_BufRight.cfg N) (fnBody Try.f26) := loopsL (l := []) (by kernel_rfl) trivial
theorem impl_BufRight.b (N : Nat) (x0 : den s24) : body (impl_BufRight.cfg N) N Try.f26 [.one] [.v] [(false, .imm)] [⟨s24, .imm, x0⟩] (fun r i => some (r, i)) = bindO (impl_BufRight N x0) fun r => some ([⟨.bool, .imm, r⟩], []) := by
  show _ = bindF _ _
  conv => rhs; simp only [impl_BufRight, bindF_ifB, bindF_bindO, bindF_pure, bindF_none, bindF_onSum]
  kernel_rfl
theorem impl_BufRight.ok (N : Nat) : ConOk Try.prog 26 [.one] (impl_BufRight.con N) := ok1 (g := impl_BufRight.cfg N) (N := N) (res := [(false, .imm)]) tys_ok (impl_BufRight.cons N) mixed Try.func26 (impl_BufRight.ls N) rfl (impl_BufRight.b N)
theorem impl_BufRight.det (N : Nat) : ConDet (impl_BufRight.con N) := det1
def impl_isCols.con (N : Nat) : Con := { modes := [.v], ptrs := [false], fn := fn1 (.int .i64) .imm (impl_isCols N) (fun r => [⟨.bool, .imm, r⟩]) (fun r => []) }
def impl_isCols.cfg (N : Nat) : Cfg := { ty := tys, keep := [4], flt := [], elm := elm0, live := [], ord := [], con := [((30, [.one, .one, .one]), impl_within.con N)], loops := [], joins := [] }
theorem impl_isCols.cons (N : Nat) : ConsOk Try.prog (impl_isCols.cfg N).con := (consOk_cons (hb30) (impl_within.ok N) (impl_within.det N) consOk_nil)
theorem impl_isCols.ls (N : Nat) : LoopsOk Try.prog (impl_isCols.cfg N) (fnBody Try.f27) := loopsL (l := []) (by kernel_rfl) trivial
theorem impl_isCols.b (N : Nat) (x0 : den (.int .i64)) : body (impl_isCols.cfg N) N Try.f27 [.one] [.v] [(false, .imm)] [⟨(.int .i64), .imm, x0⟩] (fun r i => some (r, i)) = bindO (impl_isCols N x0) fun r => some ([⟨.bool, .imm, r⟩], []) := by
  show _ = bindF _ _
  conv => rhs; simp only [impl_isCols, bindF_ifB, bindF_bindO, bindF_pure, bindF_none, bindF_onSum]
  kernel_rfl
theorem impl_isCols.ok (N : Nat) : ConOk Try.prog 27 [.one] (impl_isCols.con N) := ok1 (g := impl_isCols.cfg N) (N := N) (res := [(false, .imm)]) tys_ok (impl_isCols.cons N) mixed Try.func27 (impl_isCols.ls N) rfl (impl_isCols.b N)
theorem impl_isCols.det (N : Nat) : ConDet (impl_isCols.con N) := det1
def impl_isViewed.con (N : Nat) : Con := { modes := [.v, .v, .v], ptrs := [false], fn := fn3 s23 .imm s24 .imm (.int .i64) .imm (impl_isViewed N) (fun r => [⟨.bool, .imm, r⟩]) (fun r => []) }
def impl_isViewed.cfg (N : Nat) : Cfg := { ty := tys, keep := [8, 11, 15], flt := [], elm := elm0, live := [], ord := [], con := [((25, [.one]), impl_PointsRight.con N), ((26, [.one]), impl_BufRight.con N), ((27, [.one]), impl_isCols.con N)], loops := [], joins := [] }
theorem impl_isViewed.cons (N : Nat) : ConsOk Try.prog (impl_isViewed.cfg N).con := (consOk_cons (hb25) (impl_PointsRight.ok N) (impl_PointsRight.det N) (consOk_cons (hb26) (impl_BufRight.ok N) (impl_BufRight.det N) (consOk_cons (hb27) (impl_isCols.ok N) (impl_isCols.det N) consOk_nil)))
theorem impl_isViewed.ls (N : Nat) : LoopsOk Try.prog (impl_isViewed.cfg N) (fnBody Try.f14) := loopsL (l := []) (by kernel_rfl) trivial
theorem impl_isViewed.b (N : Nat) (x0 : den s23) (x1 : den s24) (x2 : den (.int .i64)) : body (impl_isViewed.cfg N) N Try.f14 [.one, .one, .one] [.v, .v, .v] [(false, .imm)] [⟨s23, .imm, x0⟩, ⟨s24, .imm, x1⟩, ⟨(.int .i64), .imm, x2⟩] (fun r i => some (r, i)) = bindO (impl_isViewed N x0 x1 x2) fun r => some ([⟨.bool, .imm, r⟩], []) := by
  show _ = bindF _ _
  conv => rhs; simp only [impl_isViewed, bindF_ifB, bindF_bindO, bindF_pure, bindF_none, bindF_onSum]
  kernel_rfl
theorem impl_isViewed.ok (N : Nat) : ConOk Try.prog 14 [.one, .one, .one] (impl_isViewed.con N) := ok3 (g := impl_isViewed.cfg N) (N := N) (res := [(false, .imm)]) tys_ok (impl_isViewed.cons N) mixed Try.func14 (impl_isViewed.ls N) rfl (impl_isViewed.b N)
theorem impl_isViewed.det (N : Nat) : ConDet (impl_isViewed.con N) := det3
def impl_layout_next.con (N : Nat) : Con := { modes := [.io], ptrs := [], fn := fn1 s52 (.pr .imm (.pr .imm (.pr .imm (.pr (.own (.pr (.pr (.own .imm) .imm) .imm)) (.pr .imm (.pr (.own .imm) .imm)))))) (impl_layout_next N) (fun r => []) (fun r => [⟨s52, (.pr .imm (.pr .imm (.pr .imm (.pr (.own (.pr (.pr (.own .imm) .imm) .imm)) (.pr .imm (.pr (.own .imm) .imm)))))), r⟩]) }
def impl_layout_next.cfg (N : Nat) : Cfg := { ty := tys, keep := [], flt := [], elm := elm0, live := [], ord := [], con := [], loops := [], joins := [] }
theorem impl_layout_next.cons (N : Nat) : ConsOk Try.prog (impl_layout_next.cfg N).con := consOk_nil
theorem impl_layout_next.ls (N : Nat) : LoopsOk Try.prog (impl_layout_next.cfg N) (fnBody Try.f42) := loopsL (l := []) (by kernel_rfl) trivial
theorem impl_layout_next.b (N : Nat) (x0 : den s52) : body (impl_layout_next.cfg N) N Try.f42 [.one] [.io] [] [⟨s52, (.pr .imm (.pr .imm (.pr .imm (.pr (.own (.pr (.pr (.own .imm) .imm) .imm)) (.pr .imm (.pr (.own .imm) .imm)))))), x0⟩] (fun r i => some (r, i)) = bindO (impl_layout_next N x0) fun r => some ([], [⟨s52, (.pr .imm (.pr .imm (.pr .imm (.pr (.own (.pr (.pr (.own .imm) .imm) .imm)) (.pr .imm (.pr (.own .imm) .imm)))))), r⟩]) := by
  show _ = bindF _ _
  conv => rhs; simp only [impl_layout_next, bindF_ifB, bindF_bindO, bindF_pure, bindF_none, bindF_onSum]
  kernel_rfl
theorem impl_layout_next.ok (N : Nat) : ConOk Try.prog 42 [.one] (impl_layout_next.con N) := ok1 (g := impl_layout_next.cfg N) (N := N) (res := []) tys_ok (impl_layout_next.cons N) mixed Try.func42 (impl_layout_next.ls N) rfl (impl_layout_next.b N)
theorem impl_layout_next.det (N : Nat) : ConDet (impl_layout_next.con N) := det1
def impl_isControl.con (N : Nat) : Con := { modes := [.v], ptrs := [false], fn := fn1 (.int .i64) .imm (impl_isControl N) (fun r => [⟨.bool, .imm, r⟩]) (fun r => []) }
def impl_isControl.cfg (N : Nat) : Cfg := { ty := tys, keep := [], flt := [], elm := elm0, live := [], ord := [], con := [], loops := [], joins := [] }
theorem impl_isControl.cons (N : Nat) : ConsOk Try.prog (impl_isControl.cfg N).con := consOk_nil
theorem impl_isControl.ls (N : Nat) : LoopsOk Try.prog (impl_isControl.cfg N) (fnBody Try.f48) := loopsL (l := []) (by kernel_rfl) trivial
theorem impl_isControl.b (N : Nat) (x0 : den (.int .i64)) : body (impl_isControl.cfg N) N Try.f48 [.one] [.v] [(false, .imm)] [⟨(.int .i64), .imm, x0⟩] (fun r i => some (r, i)) = bindO (impl_isControl N x0) fun r => some ([⟨.bool, .imm, r⟩], []) := by
  show _ = bindF _ _
  conv => rhs; simp only [impl_isControl, bindF_ifB, bindF_bindO, bindF_pure, bindF_none, bindF_onSum]
  kernel_rfl
theorem impl_isControl.ok (N : Nat) : ConOk Try.prog 48 [.one] (impl_isControl.con N) := ok1 (g := impl_isControl.cfg N) (N := N) (res := [(false, .imm)]) tys_ok (impl_isControl.cons N) mixed Try.func48 (impl_isControl.ls N) rfl (impl_isControl.b N)
theorem impl_isControl.det (N : Nat) : ConDet (impl_isControl.con N) := det1
def impl_shown.con (N : Nat) : Con := { modes := [.v], ptrs := [false], fn := fn1 (.int .i64) .imm (impl_shown N) (fun r => [⟨s23, (.own .imm), r⟩]) (fun r => []) }
def impl_shown.cfg (N : Nat) : Cfg := { ty := tys, keep := [4], flt := [], elm := elm0, live := [], ord := [], con := [((48, [.one]), impl_isControl.con N)], loops := [], joins := [] }
theorem impl_shown.cons (N : Nat) : ConsOk Try.prog (impl_shown.cfg N).con := (consOk_cons (hb48) (impl_isControl.ok N) (impl_isControl.det N) consOk_nil)
theorem impl_shown.ls (N : Nat) : LoopsOk Try.prog (impl_shown.cfg N) (fnBody Try.f43) := loopsL (l := []) (by kernel_rfl) trivial
theorem impl_shown.b (N : Nat) (x0 : den (.int .i64)) : body (impl_shown.cfg N) N Try.f43 [.one] [.v] [(false, (.own .imm))] [⟨(.int .i64), .imm, x0⟩] (fun r i => some (r, i)) = bindO (impl_shown N x0) fun r => some ([⟨s23, (.own .imm), r⟩], []) := by
  show _ = bindF _ _
  conv => rhs; simp only [impl_shown, bindF_ifB, bindF_bindO, bindF_pure, bindF_none, bindF_onSum]
  kernel_rfl
theorem impl_shown.ok (N : Nat) : ConOk Try.prog 43 [.one] (impl_shown.con N) := ok1 (g := impl_shown.cfg N) (N := N) (res := [(false, (.own .imm))]) tys_ok (impl_shown.cons N) mixed Try.func43 (impl_shown.ls N) rfl (impl_shown.b N)
theorem impl_shown.det (N : Nat) : ConDet (impl_shown.con N) := det1
end Go.AE.F
end
