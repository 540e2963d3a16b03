/- The printed functions are what the program comes to: contracts. -/
import Derived.Test.YthiefncabaphpaaXMachineStepsL3
noncomputable section
namespace Go.AE.F
open Go.AE Go.Proofs
set_option maxRecDepth 100000
def math_bits_Mul.con (N : Nat) : Con := { modes := [.v, .v], ptrs := [false, false], fn := fn2 (.int .u64) .imm (.int .u64) .imm (math_bits_Mul N) (fun r => [⟨(.int .u64), .imm, r.1⟩, ⟨(.int .u64), .imm, r.2⟩]) (fun r => []) }
def math_bits_Mul.cfg (N : Nat) : Cfg := { ty := tys, keep := [15, 25], flt := [], elm := elm0, live := [], ord := [], con := [((90, [.one, .one]), math_bits_Mul32.con N), ((91, [.one, .one]), math_bits_Mul64.con N)], loops := [], joins := [] }
theorem math_bits_Mul.cons (N : Nat) : ConsOk Try.prog (math_bits_Mul.cfg N).con := (consOk_cons (hb90) (math_bits_Mul32.ok N) (math_bits_Mul32.det N) (consOk_cons (hb91) (math_bits_Mul64.ok N) (math_bits_Mul64.det N) consOk_nil))
theorem math_bits_Mul.ls (N : Nat) : LoopsOk Try.prog (math_bits_Mul.cfg N) (fnBody Try.f85) := loopsL (l := []) (by kernel_rfl) trivial
theorem math_bits_Mul.b (N : Nat) (x0 : den (.int .u64)) (x1 : den (.int .u64)) : body (math_bits_Mul.cfg N) N Try.f85 [.one, .one] [.v, .v] [(false, .imm), (false, .imm)] [⟨(.int .u64), .imm, x0⟩, ⟨(.int .u64), .imm, x1⟩] (fun r i => some (r, i)) = bindO (math_bits_Mul N x0 x1) fun r => some ([⟨(.int .u64), .imm, r.1⟩, ⟨(.int .u64), .imm, r.2⟩], []) := by
  show _ = bindF _ _
  conv => rhs; simp only [math_bits_Mul, bindF_ifB, bindF_bindO, bindF_pure, bindF_none, bindF_onSum]
  kernel_rfl
theorem math_bits_Mul.ok (N : Nat) : ConOk Try.prog 85 [.one, .one] (math_bits_Mul.con N) := ok2 (g := math_bits_Mul.cfg N) (N := N) (res := [(false, .imm), (false, .imm)]) tys_ok (math_bits_Mul.cons N) mixed Try.func85 (math_bits_Mul.ls N) rfl (math_bits_Mul.b N)
theorem math_bits_Mul.det (N : Nat) : ConDet (math_bits_Mul.con N) := det2
def slices_Repeat_Sint64_int64.sk8 : Skel := ⟨dd 7 (.ov 50 [] :: (.pv (.int .i64) :: (dd 39 []))), [⟨50, s23, (.own .imm), false, false⟩]⟩
def slices_Repeat_Sint64_int64.xs8 : List XS := [⟨.exit 0, [7], ⟨dd 7 (.ov 50 [] :: (dd 40 [])), [⟨50, s23, (.own .imm), false, false⟩]⟩⟩]
def slices_Repeat_Sint64_int64.con (N : Nat) : Con := { modes := [.v, .v], ptrs := [false], fn := fn2 s23 .imm (.int .i64) .imm (slices_Repeat_Sint64_int64 N) (fun r => [⟨s23, (.own .imm), r⟩]) (fun r => []) }
def slices_Repeat_Sint64_int64.cfg (N : Nat) : Cfg := { ty := tys, keep := [18], flt := [], elm := elm0, live := [(8, [7, 8])], ord := [(9, [0, 1, 2, 3, 4, 5, 6, 7, 8, 9])], con := [((85, [.one, .one]), math_bits_Mul.con N)], loops := [(8, loopCon N slices_Repeat_Sint64_int64.sk8 slices_Repeat_Sint64_int64.xs8 (fun {R} => slices_Repeat_Sint64_int64.l8 (R := R) N))], joins := [] }
theorem slices_Repeat_Sint64_int64.cons (N : Nat) : ConsOk Try.prog (slices_Repeat_Sint64_int64.cfg N).con := (consOk_cons (hb85) (math_bits_Mul.ok N) (math_bits_Mul.det N) consOk_nil)
theorem slices_Repeat_Sint64_int64.h8 {R : Type} (N : Nat) (d : slices_Repeat_Sint64_int64.sk8.D) (kn : slices_Repeat_Sint64_int64.sk8.D → Option R) (kx : XD slices_Repeat_Sint64_int64.xs8 → Option R) : roundK (slices_Repeat_Sint64_int64.cfg N) N (nthLoop (fnBody Try.f70) 0) slices_Repeat_Sint64_int64.sk8 slices_Repeat_Sint64_int64.xs8 d kn kx = slices_Repeat_Sint64_int64.l8 N d kn kx := by kernel_rfl
theorem slices_Repeat_Sint64_int64.i8 (N : Nat) : LoopsOk Try.prog (slices_Repeat_Sint64_int64.cfg N) (nthLoop (fnBody Try.f70) 0) := loopsL (l := []) (by kernel_rfl) trivial
theorem slices_Repeat_Sint64_int64.o8 (N : Nat) : LoopOk Try.prog (nthLoop (fnBody Try.f70) 0) (loopCon N slices_Repeat_Sint64_int64.sk8 slices_Repeat_Sint64_int64.xs8 (fun {R} => slices_Repeat_Sint64_int64.l8 (R := R) N)) := loop_ok (g := slices_Repeat_Sint64_int64.cfg N) tys_ok (slices_Repeat_Sint64_int64.cons N) mixed (slices_Repeat_Sint64_int64.i8 N) (fun d kn kx => slices_Repeat_Sint64_int64.h8 N d kn kx)
theorem slices_Repeat_Sint64_int64.ls (N : Nat) : LoopsOk Try.prog (slices_Repeat_Sint64_int64.cfg N) (fnBody Try.f70) := loopsL (l := [nthLoop (fnBody Try.f70) 0]) (by kernel_rfl) ⟨loopOne (L0 := loopCon N slices_Repeat_Sint64_int64.sk8 slices_Repeat_Sint64_int64.xs8 (fun {R} => slices_Repeat_Sint64_int64.l8 (R := R) N)) (id := 8) (by kernel_rfl) (by kernel_rfl) (slices_Repeat_Sint64_int64.o8 N), trivial⟩
theorem slices_Repeat_Sint64_int64.q8 {R R' : Type} {N n : Nat} {d} {k} {g : R → Option R'} : bindF (loopP (slices_Repeat_Sint64_int64.l8 N) n d k) g = loopP (slices_Repeat_Sint64_int64.l8 N) n d fun e => bindF (k e) g := bindF_loopP (fun d kn kx => by simp only [slices_Repeat_Sint64_int64.l8, bindF_ifB, bindF_bindO, bindF_pure, bindF_none, bindF_onSum]) n d k
theorem slices_Repeat_Sint64_int64.b (N : Nat) (x0 : den s23) (x1 : den (.int .i64)) : body (slices_Repeat_Sint64_int64.cfg N) N Try.f70 [.one, .one] [.v, .v] [(false, (.own .imm))] [⟨s23, .imm, x0⟩, ⟨(.int .i64), .imm, x1⟩] (fun r i => some (r, i)) = bindO (slices_Repeat_Sint64_int64 N x0 x1) fun r => some ([⟨s23, (.own .imm), r⟩], []) := by
  show _ = bindF _ _
  conv => rhs; simp only [slices_Repeat_Sint64_int64, bindF_ifB, bindF_bindO, bindF_pure, bindF_none, bindF_onSum, slices_Repeat_Sint64_int64.q8]
  kernel_rfl
theorem slices_Repeat_Sint64_int64.ok (N : Nat) : ConOk Try.prog 70 [.one, .one] (slices_Repeat_Sint64_int64.con N) := ok2 (g := slices_Repeat_Sint64_int64.cfg N) (N := N) (res := [(false, (.own .imm))]) tys_ok (slices_Repeat_Sint64_int64.cons N) mixed Try.func70 (slices_Repeat_Sint64_int64.ls N) rfl (slices_Repeat_Sint64_int64.b N)
theorem slices_Repeat_Sint64_int64.det (N : Nat) : ConDet (slices_Repeat_Sint64_int64.con N) := det2
def impl_takes.con (N : Nat) : Con := { modes := [.v], ptrs := [false, false], fn := fn1 (.int .i64) .imm (impl_takes N) (fun r => [⟨(.int .i64), .imm, r.1⟩, ⟨(.int .i64), .imm, r.2⟩]) (fun r => []) }
def impl_takes.cfg (N : Nat) : Cfg := { ty := tys, keep := [], flt := [], elm := elm0, live := [], ord := [], con := [], loops := [], joins := [] }
theorem impl_takes.cons (N : Nat) : ConsOk Try.prog (impl_takes.cfg N).con := consOk_nil
theorem impl_takes.ls (N : Nat) : LoopsOk Try.prog (impl_takes.cfg N) (fnBody Try.f49) := loopsL (l := []) (by kernel_rfl) trivial
theorem impl_takes.b (N : Nat) (x0 : den (.int .i64)) : body (impl_takes.cfg N) N Try.f49 [.one] [.v] [(false, .imm), (false, .imm)] [⟨(.int .i64), .imm, x0⟩] (fun r i => some (r, i)) = bindO (impl_takes N x0) fun r => some ([⟨(.int .i64), .imm, r.1⟩, ⟨(.int .i64), .imm, r.2⟩], []) := by
  show _ = bindF _ _
  conv => rhs; simp only [impl_takes, bindF_ifB, bindF_bindO, bindF_pure, bindF_none, bindF_onSum]
  kernel_rfl
theorem impl_takes.ok (N : Nat) : ConOk Try.prog 49 [.one] (impl_takes.con N) := ok1 (g := impl_takes.cfg N) (N := N) (res := [(false, .imm), (false, .imm)]) tys_ok (impl_takes.cons N) mixed Try.func49 (impl_takes.ls N) rfl (impl_takes.b N)
theorem impl_takes.det (N : Nat) : ConDet (impl_takes.con N) := det1
def impl_depths.sk7 : Skel := ⟨.pv s29 :: (dd 3 (.ptr 50 [] :: (.ov 51 [] :: (.ov 52 [] :: (dd 121 []))))), [⟨50, (.int .i64), .imm, true, false⟩, ⟨51, s23, (.own .imm), false, false⟩, ⟨52, s23, (.own .imm), false, false⟩]⟩
def impl_depths.xs7 : List XS := [⟨.exit 0, [5], ⟨dd 5 (.ov 50 [] :: (dd 122 [])), [⟨50, s23, (.own .imm), false, false⟩]⟩⟩, ⟨.ret, [2, 3], ⟨dd 2 (.ov 50 [] :: (.pv .bool :: (dd 124 []))), [⟨50, s23, (.own .imm), false, false⟩]⟩⟩]
def impl_depths.sk24 : Skel := ⟨.pv s29 :: (dd 3 (.ptr 50 [] :: (.ov 51 [] :: (.ov 52 [] :: (dd 3 (.pv (.int .i64) :: (.pv (.int .i64) :: (dd 87 (.ov 53 [] :: (.pv (.int .i64) :: (.pv (.int .i64) :: (dd 26 [])))))))))))), [⟨50, (.int .i64), .imm, true, false⟩, ⟨51, s23, (.own .imm), false, false⟩, ⟨52, s23, (.own .imm), false, false⟩, ⟨53, s23, (.own .imm), false, false⟩]⟩
def impl_depths.xs24 : List XS := [⟨.exit 2, [0, 4, 5, 6, 72, 73, 74, 75, 90, 91, 92], ⟨.pv s29 :: (dd 3 (.ptr 50 [] :: (.ov 51 [] :: (.ov 52 [] :: (dd 121 []))))), [⟨50, (.int .i64), .imm, true, false⟩, ⟨51, s23, (.own .imm), false, false⟩, ⟨52, s23, (.own .imm), false, false⟩]⟩⟩, ⟨.ret, [2, 3], ⟨dd 2 (.ov 50 [] :: (.pv .bool :: (dd 124 []))), [⟨50, s23, (.own .imm), false, false⟩]⟩⟩]
def impl_depths.con (N : Nat) : Con := { modes := [.v], ptrs := [false, false], fn := fn1 s29 .imm (impl_depths N) (fun r => [⟨s23, (.own .imm), r.1⟩, ⟨.bool, .imm, r.2⟩]) (fun r => []) }
def impl_depths.cfg (N : Nat) : Cfg := { ty := tys, keep := [16, 22, 27, 60], flt := [2], elm := elm0, live := [(24, [0, 4, 5, 6, 10, 11, 72, 73, 74, 75, 90, 91, 92, 99, 100, 101]), (7, [0, 4, 5, 6, 72, 73, 74, 75, 90, 91, 92])], ord := [], con := [((35, [.one]), impl_size_Simpl_Op.con N), ((67, [.one, .fn 68 1]), slices_ContainsFunc_Simpl_Op_impl_Op__impl_depths_c1.con N), ((70, [.one, .one]), slices_Repeat_Sint64_int64.con N), ((49, [.one]), impl_takes.con N)], loops := [(7, loopCon N impl_depths.sk7 impl_depths.xs7 (fun {R} => impl_depths.l7 (R := R) N)), (24, loopCon N impl_depths.sk24 impl_depths.xs24 (fun {R} => impl_depths.l24 (R := R) N))], joins := [(32, [⟨.normal, [0, 4, 5, 6, 10, 11, 72, 73, 74, 75, 90, 91, 92, 99, 100, 101], ⟨.pv s29 :: (dd 3 (.ptr 50 [] :: (.ov 51 [] :: (.ov 52 [] :: (dd 3 (.pv (.int .i64) :: (.pv (.int .i64) :: (dd 87 (.ov 53 [] :: (.pv (.int .i64) :: (.pv (.int .i64) :: (dd 26 [])))))))))))), [⟨50, (.int .i64), .imm, true, false⟩, ⟨51, s23, (.own .imm), false, false⟩, ⟨52, s23, (.own .imm), false, false⟩, ⟨53, s23, (.own .imm), false, false⟩]⟩⟩, ⟨.ret, [2, 3], ⟨dd 2 (.ov 50 [] :: (.pv .bool :: (dd 124 []))), [⟨50, s23, (.own .imm), false, false⟩]⟩⟩])] }
theorem impl_depths.cons (N : Nat) : ConsOk Try.prog (impl_depths.cfg N).con := (consOk_cons (hb35) (impl_size_Simpl_Op.ok N) (impl_size_Simpl_Op.det N) (consOk_cons (hb67) (slices_ContainsFunc_Simpl_Op_impl_Op__impl_depths_c1.ok N) (slices_ContainsFunc_Simpl_Op_impl_Op__impl_depths_c1.det N) (consOk_cons (hb70) (slices_Repeat_Sint64_int64.ok N) (slices_Repeat_Sint64_int64.det N) (consOk_cons (hb49) (impl_takes.ok N) (impl_takes.det N) consOk_nil))))
theorem impl_depths.h24 {R : Type} (N : Nat) (d : impl_depths.sk24.D) (kn : impl_depths.sk24.D → Option R) (kx : XD impl_depths.xs24 → Option R) : roundK (impl_depths.cfg N) N (nthLoop (fnBody Try.f45) 1) impl_depths.sk24 impl_depths.xs24 d kn kx = impl_depths.l24 N d kn kx := by kernel_rfl
theorem impl_depths.i24 (N : Nat) : LoopsOk Try.prog (impl_depths.cfg N) (nthLoop (fnBody Try.f45) 1) := loopsL (l := []) (by kernel_rfl) trivial
theorem impl_depths.o24 (N : Nat) : LoopOk Try.prog (nthLoop (fnBody Try.f45) 1) (loopCon N impl_depths.sk24 impl_depths.xs24 (fun {R} => impl_depths.l24 (R := R) N)) := loop_ok (g := impl_depths.cfg N) tys_ok (impl_depths.cons N) mixed (impl_depths.i24 N) (fun d kn kx => impl_depths.h24 N d kn kx)
theorem impl_depths.h7 {R : Type} (N : Nat) (d : impl_depths.sk7.D) (kn : impl_depths.sk7.D → Option R) (kx : XD impl_depths.xs7 → Option R) : roundK (impl_depths.cfg N) N (nthLoop (fnBody Try.f45) 0) impl_depths.sk7 impl_depths.xs7 d kn kx = impl_depths.l7 N d kn kx := by kernel_rfl
theorem impl_depths.i7 (N : Nat) : LoopsOk Try.prog (impl_depths.cfg N) (nthLoop (fnBody Try.f45) 0) := loopsL (l := [nthLoop (fnBody Try.f45) 1]) (by kernel_rfl) ⟨loopOne (L0 := loopCon N impl_depths.sk24 impl_depths.xs24 (fun {R} => impl_depths.l24 (R := R) N)) (id := 24) (by kernel_rfl) (by kernel_rfl) (impl_depths.o24 N), trivial⟩
theorem impl_depths.o7 (N : Nat) : LoopOk Try.prog (nthLoop (fnBody Try.f45) 0) (loopCon N impl_depths.sk7 impl_depths.xs7 (fun {R} => impl_depths.l7 (R := R) N)) := loop_ok (g := impl_depths.cfg N) tys_ok (impl_depths.cons N) mixed (impl_depths.i7 N) (fun d kn kx => impl_depths.h7 N d kn kx)
theorem impl_depths.ls (N : Nat) : LoopsOk Try.prog (impl_depths.cfg N) (fnBody Try.f45) := loopsL (l := [nthLoop (fnBody Try.f45) 0, nthLoop (fnBody Try.f45) 1]) (by kernel_rfl) ⟨loopOne (L0 := loopCon N impl_depths.sk7 impl_depths.xs7 (fun {R} => impl_depths.l7 (R := R) N)) (id := 7) (by kernel_rfl) (by kernel_rfl) (impl_depths.o7 N), ⟨loopOne (L0 := loopCon N impl_depths.sk24 impl_depths.xs24 (fun {R} => impl_depths.l24 (R := R) N)) (id := 24) (by kernel_rfl) (by kernel_rfl) (impl_depths.o24 N), trivial⟩⟩
theorem impl_depths.q24 {R R' : Type} {N n : Nat} {d} {k} {g : R → Option R'} : bindF (loopP (impl_depths.l24 N) n d k) g = loopP (impl_depths.l24 N) n d fun e => bindF (k e) g := bindF_loopP (fun d kn kx => by simp only [impl_depths.l24, bindF_ifB, bindF_bindO, bindF_pure, bindF_none, bindF_onSum]) n d k
theorem impl_depths.q7 {R R' : Type} {N n : Nat} {d} {k} {g : R → Option R'} : bindF (loopP (impl_depths.l7 N) n d k) g = loopP (impl_depths.l7 N) n d fun e => bindF (k e) g := bindF_loopP (fun d kn kx => by simp only [impl_depths.l7, bindF_ifB, bindF_bindO, bindF_pure, bindF_none, bindF_onSum, impl_depths.q24]) n d k
theorem impl_depths.b (N : Nat) (x0 : den s29) : body (impl_depths.cfg N) N Try.f45 [.one] [.v] [(false, (.own .imm)), (false, .imm)] [⟨s29, .imm, x0⟩] (fun r i => some (r, i)) = bindO (impl_depths N x0) fun r => some ([⟨s23, (.own .imm), r.1⟩, ⟨.bool, .imm, r.2⟩], []) := by
  show _ = bindF _ _
  conv => rhs; simp only [impl_depths, bindF_ifB, bindF_bindO, bindF_pure, bindF_none, bindF_onSum, impl_depths.q7, impl_depths.q24]
  kernel_rfl
theorem impl_depths.ok (N : Nat) : ConOk Try.prog 45 [.one] (impl_depths.con N) := ok1 (g := impl_depths.cfg N) (N := N) (res := [(false, (.own .imm)), (false, .imm)]) tys_ok (impl_depths.cons N) mixed Try.func45 (impl_depths.ls N) rfl (impl_depths.b N)
theorem impl_depths.det (N : Nat) : ConDet (impl_depths.con N) := det1
def impl_CodeRight.con (N : Nat) : Con := { modes := [.v], ptrs := [false], fn := fn1 s29 .imm (impl_CodeRight N) (fun r => [⟨.bool, .imm, r⟩]) (fun r => []) }
def impl_CodeRight.cfg (N : Nat) : Cfg := { ty := tys, keep := [7], flt := [], elm := elm0, live := [], ord := [], con := [((45, [.one]), impl_depths.con N)], loops := [], joins := [] }
theorem impl_CodeRight.cons (N : Nat) : ConsOk Try.prog (impl_CodeRight.cfg N).con := (consOk_cons (hb45) (impl_depths.ok N) (impl_depths.det N) consOk_nil)
theorem impl_CodeRight.ls (N : Nat) : LoopsOk Try.prog (impl_CodeRight.cfg N) (fnBody Try.f31) := loopsL (l := []) (by kernel_rfl) trivial
theorem impl_CodeRight.b (N : Nat) (x0 : den s29) : body (impl_CodeRight.cfg N) N Try.f31 [.one] [.v] [(false, .imm)] [⟨s29, .imm, x0⟩] (fun r i => some (r, i)) = bindO (impl_CodeRight N x0) fun r => some ([⟨.bool, .imm, r⟩], []) := by
  show _ = bindF _ _
  conv => rhs; simp only [impl_CodeRight, bindF_ifB, bindF_bindO, bindF_pure, bindF_none, bindF_onSum]
  kernel_rfl
theorem impl_CodeRight.ok (N : Nat) : ConOk Try.prog 31 [.one] (impl_CodeRight.con N) := ok1 (g := impl_CodeRight.cfg N) (N := N) (res := [(false, .imm)]) tys_ok (impl_CodeRight.cons N) mixed Try.func31 (impl_CodeRight.ls N) rfl (impl_CodeRight.b N)
theorem impl_CodeRight.det (N : Nat) : ConDet (impl_CodeRight.con N) := det1
def impl_isPoint.con (N : Nat) : Con := { modes := [.v], ptrs := [false], fn := fn1 (.int .i64) .imm (impl_isPoint N) (fun r => [⟨.bool, .imm, r⟩]) (fun r => []) }
def impl_isPoint.cfg (N : Nat) : Cfg := { ty := tys, keep := [4, 7], flt := [], elm := elm0, live := [], ord := [], con := [((33, [.one, .one, .one]), impl_within.con N)], loops := [], joins := [] }
theorem impl_isPoint.cons (N : Nat) : ConsOk Try.prog (impl_isPoint.cfg N).con := (consOk_cons (hb33) (impl_within.ok N) (impl_within.det N) consOk_nil)
theorem impl_isPoint.ls (N : Nat) : LoopsOk Try.prog (impl_isPoint.cfg N) (fnBody Try.f73) := loopsL (l := []) (by kernel_rfl) trivial
theorem impl_isPoint.b (N : Nat) (x0 : den (.int .i64)) : body (impl_isPoint.cfg N) N Try.f73 [.one] [.v] [(false, .imm)] [⟨(.int .i64), .imm, x0⟩] (fun r i => some (r, i)) = bindO (impl_isPoint N x0) fun r => some ([⟨.bool, .imm, r⟩], []) := by
  show _ = bindF _ _
  conv => rhs; simp only [impl_isPoint, bindF_ifB, bindF_bindO, bindF_pure, bindF_none, bindF_onSum]
  kernel_rfl
theorem impl_isPoint.ok (N : Nat) : ConOk Try.prog 73 [.one] (impl_isPoint.con N) := ok1 (g := impl_isPoint.cfg N) (N := N) (res := [(false, .imm)]) tys_ok (impl_isPoint.cons N) mixed Try.func73 (impl_isPoint.ls N) rfl (impl_isPoint.b N)
theorem impl_isPoint.det (N : Nat) : ConDet (impl_isPoint.con N) := det1
def impl_PointsRight_c1.con (N : Nat) : Con := { modes := [.v], ptrs := [false], fn := fn1 (.int .i64) .imm (impl_PointsRight_c1 N) (fun r => [⟨.bool, .imm, r⟩]) (fun r => []) }
def impl_PointsRight_c1.cfg (N : Nat) : Cfg := { ty := tys, keep := [4], flt := [], elm := elm0, live := [], ord := [], con := [((73, [.one]), impl_isPoint.con N)], loops := [], joins := [] }
theorem impl_PointsRight_c1.cons (N : Nat) : ConsOk Try.prog (impl_PointsRight_c1.cfg N).con := (consOk_cons (hb73) (impl_isPoint.ok N) (impl_isPoint.det N) consOk_nil)
theorem impl_PointsRight_c1.ls (N : Nat) : LoopsOk Try.prog (impl_PointsRight_c1.cfg N) (fnBody Try.f72) := loopsL (l := []) (by kernel_rfl) trivial
theorem impl_PointsRight_c1.b (N : Nat) (x0 : den (.int .i64)) : body (impl_PointsRight_c1.cfg N) N Try.f72 [.one] [.v] [(false, .imm)] [⟨(.int .i64), .imm, x0⟩] (fun r i => some (r, i)) = bindO (impl_PointsRight_c1 N x0) fun r => some ([⟨.bool, .imm, r⟩], []) := by
  show _ = bindF _ _
  conv => rhs; simp only [impl_PointsRight_c1, bindF_ifB, bindF_bindO, bindF_pure, bindF_none, bindF_onSum]
  kernel_rfl
theorem impl_PointsRight_c1.ok (N : Nat) : ConOk Try.prog 72 [.one] (impl_PointsRight_c1.con N) := ok1 (g := impl_PointsRight_c1.cfg N) (N := N) (res := [(false, .imm)]) tys_ok (impl_PointsRight_c1.cons N) mixed Try.func72 (impl_PointsRight_c1.ls N) rfl (impl_PointsRight_c1.b N)
theorem impl_PointsRight_c1.det (N : Nat) : ConDet (impl_PointsRight_c1.con N) := det1
def slices_IndexFunc_Sint64_int64__impl_PointsRight_c1.sk2 : Skel := ⟨.pv s23 :: (.fn 72 [] :: (dd 5 (.pv (.int .i64) :: (.pv (.int .i64) :: (dd 10 []))))), []⟩
def slices_IndexFunc_Sint64_int64__impl_PointsRight_c1.xs2 : List XS := [⟨.exit 0, [], ⟨dd 19 [], []⟩⟩, ⟨.ret, [4], ⟨dd 4 (.pv (.int .i64) :: (dd 14 [])), []⟩⟩]
def slices_IndexFunc_Sint64_int64__impl_PointsRight_c1.con (N : Nat) : Con := { modes := [.v], ptrs := [false], fn := fn1 s23 .imm (slices_IndexFunc_Sint64_int64__impl_PointsRight_c1 N) (fun r => [⟨(.int .i64), .imm, r⟩]) (fun r => []) }
def slices_IndexFunc_Sint64_int64__impl_PointsRight_c1.cfg (N : Nat) : Cfg := { ty := tys, keep := [16], flt := [], elm := elm0, live := [(2, [0, 1, 7, 8])], ord := [], con := [((72, [.one]), impl_PointsRight_c1.con N)], loops := [(2, loopCon N slices_IndexFunc_Sint64_int64__impl_PointsRight_c1.sk2 slices_IndexFunc_Sint64_int64__impl_PointsRight_c1.xs2 (fun {R} => slices_IndexFunc_Sint64_int64__impl_PointsRight_c1.l2 (R := R) N))], joins := [] }
theorem slices_IndexFunc_Sint64_int64__impl_PointsRight_c1.cons (N : Nat) : ConsOk Try.prog (slices_IndexFunc_Sint64_int64__impl_PointsRight_c1.cfg N).con := (consOk_cons (hb72) (impl_PointsRight_c1.ok N) (impl_PointsRight_c1.det N) consOk_nil)
theorem slices_IndexFunc_Sint64_int64__impl_PointsRight_c1.h2 {R : Type} (N : Nat) (d : slices_IndexFunc_Sint64_int64__impl_PointsRight_c1.sk2.D) (kn : slices_IndexFunc_Sint64_int64__impl_PointsRight_c1.sk2.D → Option R) (kx : XD slices_IndexFunc_Sint64_int64__impl_PointsRight_c1.xs2 → Option R) : roundK (slices_IndexFunc_Sint64_int64__impl_PointsRight_c1.cfg N) N (nthLoop (fnBody Try.f86) 0) slices_IndexFunc_Sint64_int64__impl_PointsRight_c1.sk2 slices_IndexFunc_Sint64_int64__impl_PointsRight_c1.xs2 d kn kx = slices_IndexFunc_Sint64_int64__impl_PointsRight_c1.l2 N d kn kx := by kernel_rfl
theorem slices_IndexFunc_Sint64_int64__impl_PointsRight_c1.i2 (N : Nat) : LoopsOk Try.prog (slices_IndexFunc_Sint64_int64__impl_PointsRight_c1.cfg N) (nthLoop (fnBody Try.f86) 0) := loopsL (l := []) (by kernel_rfl) trivial
theorem slices_IndexFunc_Sint64_int64__impl_PointsRight_c1.o2 (N : Nat) : LoopOk Try.prog (nthLoop (fnBody Try.f86) 0) (loopCon N slices_IndexFunc_Sint64_int64__impl_PointsRight_c1.sk2 slices_IndexFunc_Sint64_int64__impl_PointsRight_c1.xs2 (fun {R} => slices_IndexFunc_Sint64_int64__impl_PointsRight_c1.l2 (R := R) N)) := loop_ok (g := slices_IndexFunc_Sint64_int64__impl_PointsRight_c1.cfg N) tys_ok (slices_IndexFunc_Sint64_int64__impl_PointsRight_c1.cons N) mixed (slices_IndexFunc_Sint64_int64__impl_PointsRight_c1.i2 N) (fun d kn kx => slices_IndexFunc_Sint64_int64__impl_PointsRight_c1.h2 N d kn kx)
theorem slices_IndexFunc_Sint64_int64__impl_PointsRight_c1.ls (N : Nat) : LoopsOk Try.prog (slices_IndexFunc_Sint64_int64__impl_PointsRight_c1.cfg N) (fnBody Try.f86) := loopsL (l := [nthLoop (fnBody Try.f86) 0]) (by kernel_rfl) ⟨loopOne (L0 := loopCon N slices_IndexFunc_Sint64_int64__impl_PointsRight_c1.sk2 slices_IndexFunc_Sint64_int64__impl_PointsRight_c1.xs2 (fun {R} => slices_IndexFunc_Sint64_int64__impl_PointsRight_c1.l2 (R := R) N)) (id := 2) (by kernel_rfl) (by kernel_rfl) (slices_IndexFunc_Sint64_int64__impl_PointsRight_c1.o2 N), trivial⟩
theorem slices_IndexFunc_Sint64_int64__impl_PointsRight_c1.q2 {R R' : Type} {N n : Nat} {d} {k} {g : R → Option R'} : bindF (loopP (slices_IndexFunc_Sint64_int64__impl_PointsRight_c1.l2 N) n d k) g = loopP (slices_IndexFunc_Sint64_int64__impl_PointsRight_c1.l2 N) n d fun e => bindF (k e) g := bindF_loopP (fun d kn kx => by simp only [slices_IndexFunc_Sint64_int64__impl_PointsRight_c1.l2, bindF_ifB, bindF_bindO, bindF_pure, bindF_none, bindF_onSum]) n d k
theorem slices_IndexFunc_Sint64_int64__impl_PointsRight_c1.b (N : Nat) (x0 : den s23) : body (slices_IndexFunc_Sint64_int64__impl_PointsRight_c1.cfg N) N Try.f86 [.one, .fn 72 0] [.v] [(false, .imm)] [⟨s23, .imm, x0⟩] (fun r i => some (r, i)) = bindO (slices_IndexFunc_Sint64_int64__impl_PointsRight_c1 N x0) fun r => some ([⟨(.int .i64), .imm, r⟩], []) := by
  show _ = bindF _ _
  conv => rhs; simp only [slices_IndexFunc_Sint64_int64__impl_PointsRight_c1, bindF_ifB, bindF_bindO, bindF_pure, bindF_none, bindF_onSum, slices_IndexFunc_Sint64_int64__impl_PointsRight_c1.q2]
  kernel_rfl
theorem slices_IndexFunc_Sint64_int64__impl_PointsRight_c1.ok (N : Nat) : ConOk Try.prog 86 [.one, .fn 72 0] (slices_IndexFunc_Sint64_int64__impl_PointsRight_c1.con N) := ok1 (g := slices_IndexFunc_Sint64_int64__impl_PointsRight_c1.cfg N) (N := N) (res := [(false, .imm)]) tys_ok (slices_IndexFunc_Sint64_int64__impl_PointsRight_c1.cons N) mixed Try.func86 (slices_IndexFunc_Sint64_int64__impl_PointsRight_c1.ls N) rfl (slices_IndexFunc_Sint64_int64__impl_PointsRight_c1.b N)
theorem slices_IndexFunc_Sint64_int64__impl_PointsRight_c1.det (N : Nat) : ConDet (slices_IndexFunc_Sint64_int64__impl_PointsRight_c1.con N) := det1
def slices_ContainsFunc_Sint64_int64__impl_PointsRight_c1.con (N : Nat) : Con := { modes := [.v], ptrs := [false], fn := fn1 s23 .imm (slices_ContainsFunc_Sint64_int64__impl_PointsRight_c1 N) (fun r => [⟨.bool, .imm, r⟩]) (fun r => []) }
def slices_ContainsFunc_Sint64_int64__impl_PointsRight_c1.cfg (N : Nat) : Cfg := { ty := tys, keep := [7], flt := [], elm := elm0, live := [], ord := [], con := [((86, [.one, .fn 72 0]), slices_IndexFunc_Sint64_int64__impl_PointsRight_c1.con N)], loops := [], joins := [] }
theorem slices_ContainsFunc_Sint64_int64__impl_PointsRight_c1.cons (N : Nat) : ConsOk Try.prog (slices_ContainsFunc_Sint64_int64__impl_PointsRight_c1.cfg N).con := (consOk_cons (hb86) (slices_IndexFunc_Sint64_int64__impl_PointsRight_c1.ok N) (slices_IndexFunc_Sint64_int64__impl_PointsRight_c1.det N) consOk_nil)
theorem slices_ContainsFunc_Sint64_int64__impl_PointsRight_c1.ls (N : Nat) : LoopsOk Try.prog (slices_ContainsFunc_Sint64_int64__impl_PointsRight_c1.cfg N) (fnBody Try.f71) := loopsL (l := []) (by kernel_rfl) trivial
theorem slices_ContainsFunc_Sint64_int64__impl_PointsRight_c1.b (N : Nat) (x0 : den s23) : body (slices_ContainsFunc_Sint64_int64__impl_PointsRight_c1.cfg N) N Try.f71 [.one, .fn 72 0] [.v] [(false, .imm)] [⟨s23, .imm, x0⟩] (fun r i => some (r, i)) = bindO (slices_ContainsFunc_Sint64_int64__impl_PointsRight_c1 N x0) fun r => some ([⟨.bool, .imm, r⟩], []) := by
  show _ = bindF _ _
  conv => rhs; simp only [slices_ContainsFunc_Sint64_int64__impl_PointsRight_c1, bindF_ifB, bindF_bindO, bindF_pure, bindF_none, bindF_onSum]
  kernel_rfl
theorem slices_ContainsFunc_Sint64_int64__impl_PointsRight_c1.ok (N : Nat) : ConOk Try.prog 71 [.one, .fn 72 0] (slices_ContainsFunc_Sint64_int64__impl_PointsRight_c1.con N) := ok1 (g := slices_ContainsFunc_Sint64_int64__impl_PointsRight_c1.cfg N) (N := N) (res := [(false, .imm)]) tys_ok (slices_ContainsFunc_Sint64_int64__impl_PointsRight_c1.cons N) mixed Try.func71 (slices_ContainsFunc_Sint64_int64__impl_PointsRight_c1.ls N) rfl (slices_ContainsFunc_Sint64_int64__impl_PointsRight_c1.b N)
theorem slices_ContainsFunc_Sint64_int64__impl_PointsRight_c1.det (N : Nat) : ConDet (slices_ContainsFunc_Sint64_int64__impl_PointsRight_c1.con N) := det1
def impl_PointsRight.con (N : Nat) : Con := { modes := [.v], ptrs := [false], fn := fn1 s23 .imm (impl_PointsRight N) (fun r => [⟨.bool, .imm, r⟩]) (fun r => []) }
def impl_PointsRight.cfg (N : Nat) : Cfg := { ty := tys, keep := [8], flt := [], elm := elm0, live := [], ord := [], con := [((71, [.one, .fn 72 0]), slices_ContainsFunc_Sint64_int64__impl_PointsRight_c1.con N)], loops := [], joins := [] }
theorem impl_PointsRight.cons (N : Nat) : ConsOk Try.prog (impl_PointsRight.cfg N).con := (consOk_cons (hb71) (slices_ContainsFunc_Sint64_int64__impl_PointsRight_c1.ok N) (slices_ContainsFunc_Sint64_int64__impl_PointsRight_c1.det N) consOk_nil)
theorem impl_PointsRight.ls (N : Nat) : LoopsOk Try.prog (impl_PointsRight.cfg N) (fnBody Try.f46) := loopsL (l := []) (by kernel_rfl) trivial
theorem impl_PointsRight.b (N : Nat) (x0 : den s23) : body (impl_PointsRight.cfg N) N Try.f46 [.one] [.v] [(false, .imm)] [⟨s23, .imm, x0⟩] (fun r i => some (r, i)) = bindO (impl_PointsRight N x0) fun r => some ([⟨.bool, .imm, r⟩], []) := by
  show _ = bindF _ _
  conv => rhs; simp only [impl_PointsRight, bindF_ifB, bindF_bindO, bindF_pure, bindF_none, bindF_onSum]
  kernel_rfl
theorem impl_PointsRight.ok (N : Nat) : ConOk Try.prog 46 [.one] (impl_PointsRight.con N) := ok1 (g := impl_PointsRight.cfg N) (N := N) (res := [(false, .imm)]) tys_ok (impl_PointsRight.cons N) mixed Try.func46 (impl_PointsRight.ls N) rfl (impl_PointsRight.b N)
theorem impl_PointsRight.det (N : Nat) : ConDet (impl_PointsRight.con N) := det1
def impl_size_Sint64.con (N : Nat) : Con := { modes := [.v], ptrs := [false], fn := fn1 s23 .imm (impl_size_Sint64 N) (fun r => [⟨(.int .i64), .imm, r⟩]) (fun r => []) }
def impl_size_Sint64.cfg (N : Nat) : Cfg := { ty := tys, keep := [], flt := [], elm := elm0, live := [], ord := [], con := [], loops := [], joins := [] }
theorem impl_size_Sint64.cons (N : Nat) : ConsOk Try.prog (impl_size_Sint64.cfg N).con := consOk_nil
theorem impl_size_Sint64.ls (N : Nat) : LoopsOk Try.prog (impl_size_Sint64.cfg N) (fnBody Try.f53) := loopsL (l := []) (by kernel_rfl) trivial
theorem impl_size_Sint64.b (N : Nat) (x0 : den s23) : body (impl_size_Sint64.cfg N) N Try.f53 [.one] [.v] [(false, .imm)] [⟨s23, .imm, x0⟩] (fun r i => some (r, i)) = bindO (impl_size_Sint64 N x0) fun r => some ([⟨(.int .i64), .imm, r⟩], []) := by
  show _ = bindF _ _
  conv => rhs; simp only [impl_size_Sint64, bindF_ifB, bindF_bindO, bindF_pure, bindF_none, bindF_onSum]
  kernel_rfl
theorem impl_size_Sint64.ok (N : Nat) : ConOk Try.prog 53 [.one] (impl_size_Sint64.con N) := ok1 (g := impl_size_Sint64.cfg N) (N := N) (res := [(false, .imm)]) tys_ok (impl_size_Sint64.cons N) mixed Try.func53 (impl_size_Sint64.ls N) rfl (impl_size_Sint64.b N)
theorem impl_size_Sint64.det (N : Nat) : ConDet (impl_size_Sint64.con N) := det1
def impl_Buf_isPlace.con (N : Nat) : Con := { modes := [.rd, .v], ptrs := [false], fn := fn2 s24 .imm (.int .i64) .imm (impl_Buf_isPlace N) (fun r => [⟨.bool, .imm, r⟩]) (fun r => []) }
def impl_Buf_isPlace.cfg (N : Nat) : Cfg := { ty := tys, keep := [10, 11], flt := [], elm := elm0, live := [], ord := [], con := [((53, [.one]), impl_size_Sint64.con N), ((33, [.one, .one, .one]), impl_within.con N)], loops := [], joins := [] }
theorem impl_Buf_isPlace.cons (N : Nat) : ConsOk Try.prog (impl_Buf_isPlace.cfg N).con := (consOk_cons (hb53) (impl_size_Sint64.ok N) (impl_size_Sint64.det N) (consOk_cons (hb33) (impl_within.ok N) (impl_within.det N) consOk_nil))
theorem impl_Buf_isPlace.ls (N : Nat) : LoopsOk Try.prog (impl_Buf_isPlace.cfg N) (fnBody Try.f47) := loopsL (l := []) (by kernel_rfl) trivial
theorem impl_Buf_isPlace.b (N : Nat) (x0 : den s24) (x1 : den (.int .i64)) : body (impl_Buf_isPlace.cfg N) N Try.f47 [.one, .one] [.rd, .v] [(false, .imm)] [⟨s24, .imm, x0⟩, ⟨(.int .i64), .imm, x1⟩] (fun r i => some (r, i)) = bindO (impl_Buf_isPlace N x0 x1) fun r => some ([⟨.bool, .imm, r⟩], []) := by
  show _ = bindF _ _
  conv => rhs; simp only [impl_Buf_isPlace, bindF_ifB, bindF_bindO, bindF_pure, bindF_none, bindF_onSum]
  kernel_rfl
theorem impl_Buf_isPlace.ok (N : Nat) : ConOk Try.prog 47 [.one, .one] (impl_Buf_isPlace.con N) := ok2 (g := impl_Buf_isPlace.cfg N) (N := N) (res := [(false, .imm)]) tys_ok (impl_Buf_isPlace.cons N) mixed Try.func47 (impl_Buf_isPlace.ls N) rfl (impl_Buf_isPlace.b N)
theorem impl_Buf_isPlace.det (N : Nat) : ConDet (impl_Buf_isPlace.con N) := det2
end Go.AE.F
end
