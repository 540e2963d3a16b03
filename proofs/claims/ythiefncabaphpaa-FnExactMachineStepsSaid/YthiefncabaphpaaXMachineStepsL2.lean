/- The printed functions are what the program comes to: contracts. -/
import Derived.Test.YthiefncabaphpaaXMachineStepsL1
noncomputable section
namespace Go.AE.F
open Go.AE Go.Proofs
set_option maxRecDepth 100000
def spec_l11Motion.sk3 : Skel := ⟨.pv .str :: (dd 2 (.ov 50 [] :: (.pv (.int .i64) :: (dd 14 [])))), [⟨50, (.sl 9 .str), (.own .imm), false, false⟩]⟩
def spec_l11Motion.xs3 : List XS := [⟨.exit 0, [], ⟨dd 19 [], []⟩⟩, ⟨.ret, [2], ⟨dd 2 (.pv (.int .i64) :: (dd 16 [])), []⟩⟩]
def spec_l11Motion.con (N : Nat) : Con := { modes := [.v], ptrs := [false], fn := fn1 .str .imm (spec_l11Motion N) (fun r => [⟨(.int .i64), .imm, r⟩]) (fun r => []) }
def spec_l11Motion.cfg (N : Nat) : Cfg := { ty := tys, keep := [5], flt := [], elm := elm0, live := [(3, [0, 3, 4])], ord := [], con := [((62, []), spec_l11Motions.con N)], loops := [(3, loopCon N spec_l11Motion.sk3 spec_l11Motion.xs3 (fun {R} => spec_l11Motion.l3 (R := R) N))], joins := [] }
theorem spec_l11Motion.cons (N : Nat) : ConsOk Try.prog (spec_l11Motion.cfg N).con := (consOk_cons (hb62) (spec_l11Motions.ok N) (spec_l11Motions.det N) consOk_nil)
theorem spec_l11Motion.h3 {R : Type} (N : Nat) (d : spec_l11Motion.sk3.D) (kn : spec_l11Motion.sk3.D → Option R) (kx : XD spec_l11Motion.xs3 → Option R) : roundK (spec_l11Motion.cfg N) N (nthLoop (fnBody Try.f40) 0) spec_l11Motion.sk3 spec_l11Motion.xs3 d kn kx = spec_l11Motion.l3 N d kn kx := by kernel_rfl
theorem spec_l11Motion.i3 (N : Nat) : LoopsOk Try.prog (spec_l11Motion.cfg N) (nthLoop (fnBody Try.f40) 0) := loopsL (l := []) (by kernel_rfl) trivial
theorem spec_l11Motion.o3 (N : Nat) : LoopOk Try.prog (nthLoop (fnBody Try.f40) 0) (loopCon N spec_l11Motion.sk3 spec_l11Motion.xs3 (fun {R} => spec_l11Motion.l3 (R := R) N)) := loop_ok (g := spec_l11Motion.cfg N) tys_ok (spec_l11Motion.cons N) mixed (spec_l11Motion.i3 N) (fun d kn kx => spec_l11Motion.h3 N d kn kx)
theorem spec_l11Motion.ls (N : Nat) : LoopsOk Try.prog (spec_l11Motion.cfg N) (fnBody Try.f40) := loopsL (l := [nthLoop (fnBody Try.f40) 0]) (by kernel_rfl) ⟨loopOne (L0 := loopCon N spec_l11Motion.sk3 spec_l11Motion.xs3 (fun {R} => spec_l11Motion.l3 (R := R) N)) (id := 3) (by kernel_rfl) (by kernel_rfl) (spec_l11Motion.o3 N), trivial⟩
theorem spec_l11Motion.q3 {R R' : Type} {N n : Nat} {d} {k} {g : R → Option R'} : bindF (loopP (spec_l11Motion.l3 N) n d k) g = loopP (spec_l11Motion.l3 N) n d fun e => bindF (k e) g := bindF_loopP (fun d kn kx => by simp only [spec_l11Motion.l3, bindF_ifB, bindF_bindO, bindF_pure, bindF_none, bindF_onSum]) n d k
theorem spec_l11Motion.b (N : Nat) (x0 : den .str) : body (spec_l11Motion.cfg N) N Try.f40 [.one] [.v] [(false, .imm)] [⟨.str, .imm, x0⟩] (fun r i => some (r, i)) = bindO (spec_l11Motion N x0) fun r => some ([⟨(.int .i64), .imm, r⟩], []) := by
  show _ = bindF _ _
  conv => rhs; simp only [spec_l11Motion, bindF_ifB, bindF_bindO, bindF_pure, bindF_none, bindF_onSum, spec_l11Motion.q3]
  kernel_rfl
theorem spec_l11Motion.ok (N : Nat) : ConOk Try.prog 40 [.one] (spec_l11Motion.con N) := ok1 (g := spec_l11Motion.cfg N) (N := N) (res := [(false, .imm)]) tys_ok (spec_l11Motion.cons N) mixed Try.func40 (spec_l11Motion.ls N) rfl (spec_l11Motion.b N)
theorem spec_l11Motion.det (N : Nat) : ConDet (spec_l11Motion.con N) := det1
def spec_l03Start.sk1 : Skel := ⟨dd 1 (.pv (.int .i64) :: (.ptr 50 [] :: (dd 16 []))), [⟨50, s24, .imm, true, false⟩]⟩
def spec_l03Start.xs1 : List XS := [⟨.exit 0, [1], ⟨dd 1 (.pv (.int .i64) :: (dd 17 [])), []⟩⟩]
def spec_l03Start.con (N : Nat) : Con := { modes := [.v, .v], ptrs := [false], fn := fn2 s24 .imm (.int .i64) .imm (spec_l03Start N) (fun r => [⟨(.int .i64), .imm, r⟩]) (fun r => []) }
def spec_l03Start.cfg (N : Nat) : Cfg := { ty := tys, keep := [], flt := [], elm := elm0, live := [(1, [1, 2, 8, 9, 10, 11, 12, 13, 14])], ord := [], con := [], loops := [(1, loopCon N spec_l03Start.sk1 spec_l03Start.xs1 (fun {R} => spec_l03Start.l1 (R := R) N))], joins := [] }
theorem spec_l03Start.cons (N : Nat) : ConsOk Try.prog (spec_l03Start.cfg N).con := consOk_nil
theorem spec_l03Start.h1 {R : Type} (N : Nat) (d : spec_l03Start.sk1.D) (kn : spec_l03Start.sk1.D → Option R) (kx : XD spec_l03Start.xs1 → Option R) : roundK (spec_l03Start.cfg N) N (nthLoop (fnBody Try.f78) 0) spec_l03Start.sk1 spec_l03Start.xs1 d kn kx = spec_l03Start.l1 N d kn kx := by kernel_rfl
theorem spec_l03Start.i1 (N : Nat) : LoopsOk Try.prog (spec_l03Start.cfg N) (nthLoop (fnBody Try.f78) 0) := loopsL (l := []) (by kernel_rfl) trivial
theorem spec_l03Start.o1 (N : Nat) : LoopOk Try.prog (nthLoop (fnBody Try.f78) 0) (loopCon N spec_l03Start.sk1 spec_l03Start.xs1 (fun {R} => spec_l03Start.l1 (R := R) N)) := loop_ok (g := spec_l03Start.cfg N) tys_ok (spec_l03Start.cons N) mixed (spec_l03Start.i1 N) (fun d kn kx => spec_l03Start.h1 N d kn kx)
theorem spec_l03Start.ls (N : Nat) : LoopsOk Try.prog (spec_l03Start.cfg N) (fnBody Try.f78) := loopsL (l := [nthLoop (fnBody Try.f78) 0]) (by kernel_rfl) ⟨loopOne (L0 := loopCon N spec_l03Start.sk1 spec_l03Start.xs1 (fun {R} => spec_l03Start.l1 (R := R) N)) (id := 1) (by kernel_rfl) (by kernel_rfl) (spec_l03Start.o1 N), trivial⟩
theorem spec_l03Start.q1 {R R' : Type} {N n : Nat} {d} {k} {g : R → Option R'} : bindF (loopP (spec_l03Start.l1 N) n d k) g = loopP (spec_l03Start.l1 N) n d fun e => bindF (k e) g := bindF_loopP (fun d kn kx => by simp only [spec_l03Start.l1, bindF_ifB, bindF_bindO, bindF_pure, bindF_none, bindF_onSum]) n d k
theorem spec_l03Start.b (N : Nat) (x0 : den s24) (x1 : den (.int .i64)) : body (spec_l03Start.cfg N) N Try.f78 [.one, .one] [.v, .v] [(false, .imm)] [⟨s24, .imm, x0⟩, ⟨(.int .i64), .imm, x1⟩] (fun r i => some (r, i)) = bindO (spec_l03Start N x0 x1) fun r => some ([⟨(.int .i64), .imm, r⟩], []) := by
  show _ = bindF _ _
  conv => rhs; simp only [spec_l03Start, bindF_ifB, bindF_bindO, bindF_pure, bindF_none, bindF_onSum, spec_l03Start.q1]
  kernel_rfl
theorem spec_l03Start.ok (N : Nat) : ConOk Try.prog 78 [.one, .one] (spec_l03Start.con N) := ok2 (g := spec_l03Start.cfg N) (N := N) (res := [(false, .imm)]) tys_ok (spec_l03Start.cons N) mixed Try.func78 (spec_l03Start.ls N) rfl (spec_l03Start.b N)
theorem spec_l03Start.det (N : Nat) : ConDet (spec_l03Start.con N) := det2
def spec_l03Spot.sk3 : Skel := ⟨dd 1 (.pv (.int .i64) :: (.ptr 50 [] :: (dd 1 (.ptr 51 [] :: (.pv (.int .i64) :: (.pv (.int .i64) :: (dd 20 []))))))), [⟨50, s24, .imm, true, false⟩, ⟨51, s43, .imm, true, false⟩]⟩
def spec_l03Spot.xs3 : List XS := [⟨.exit 0, [1, 2, 4, 5], ⟨dd 1 (.pv (.int .i64) :: (.ptr 50 [] :: (dd 1 (.ptr 51 [] :: (.pv (.int .i64) :: (dd 21 [])))))), [⟨50, s24, .imm, true, false⟩, ⟨51, s43, .imm, true, false⟩]⟩⟩]
def spec_l03Spot.con (N : Nat) : Con := { modes := [.v, .v], ptrs := [false], fn := fn2 s24 .imm (.int .i64) .imm (spec_l03Spot N) (fun r => [⟨s43, .imm, r⟩]) (fun r => []) }
def spec_l03Spot.cfg (N : Nat) : Cfg := { ty := tys, keep := [24], flt := [], elm := elm0, live := [(3, [1, 2, 4, 5, 6])], ord := [], con := [((78, [.one, .one]), spec_l03Start.con N)], loops := [(3, loopCon N spec_l03Spot.sk3 spec_l03Spot.xs3 (fun {R} => spec_l03Spot.l3 (R := R) N))], joins := [(4, [⟨.normal, [1, 2, 4, 5, 6], ⟨dd 1 (.pv (.int .i64) :: (.ptr 50 [] :: (dd 1 (.ptr 51 [] :: (.pv (.int .i64) :: (.pv (.int .i64) :: (dd 20 []))))))), [⟨50, s24, .imm, true, false⟩, ⟨51, s43, .imm, true, false⟩]⟩⟩])] }
theorem spec_l03Spot.cons (N : Nat) : ConsOk Try.prog (spec_l03Spot.cfg N).con := (consOk_cons (hb78) (spec_l03Start.ok N) (spec_l03Start.det N) consOk_nil)
theorem spec_l03Spot.h3 {R : Type} (N : Nat) (d : spec_l03Spot.sk3.D) (kn : spec_l03Spot.sk3.D → Option R) (kx : XD spec_l03Spot.xs3 → Option R) : roundK (spec_l03Spot.cfg N) N (nthLoop (fnBody Try.f64) 0) spec_l03Spot.sk3 spec_l03Spot.xs3 d kn kx = spec_l03Spot.l3 N d kn kx := by kernel_rfl
theorem spec_l03Spot.i3 (N : Nat) : LoopsOk Try.prog (spec_l03Spot.cfg N) (nthLoop (fnBody Try.f64) 0) := loopsL (l := []) (by kernel_rfl) trivial
theorem spec_l03Spot.o3 (N : Nat) : LoopOk Try.prog (nthLoop (fnBody Try.f64) 0) (loopCon N spec_l03Spot.sk3 spec_l03Spot.xs3 (fun {R} => spec_l03Spot.l3 (R := R) N)) := loop_ok (g := spec_l03Spot.cfg N) tys_ok (spec_l03Spot.cons N) mixed (spec_l03Spot.i3 N) (fun d kn kx => spec_l03Spot.h3 N d kn kx)
theorem spec_l03Spot.ls (N : Nat) : LoopsOk Try.prog (spec_l03Spot.cfg N) (fnBody Try.f64) := loopsL (l := [nthLoop (fnBody Try.f64) 0]) (by kernel_rfl) ⟨loopOne (L0 := loopCon N spec_l03Spot.sk3 spec_l03Spot.xs3 (fun {R} => spec_l03Spot.l3 (R := R) N)) (id := 3) (by kernel_rfl) (by kernel_rfl) (spec_l03Spot.o3 N), trivial⟩
theorem spec_l03Spot.q3 {R R' : Type} {N n : Nat} {d} {k} {g : R → Option R'} : bindF (loopP (spec_l03Spot.l3 N) n d k) g = loopP (spec_l03Spot.l3 N) n d fun e => bindF (k e) g := bindF_loopP (fun d kn kx => by simp only [spec_l03Spot.l3, bindF_ifB, bindF_bindO, bindF_pure, bindF_none, bindF_onSum]) n d k
theorem spec_l03Spot.b (N : Nat) (x0 : den s24) (x1 : den (.int .i64)) : body (spec_l03Spot.cfg N) N Try.f64 [.one, .one] [.v, .v] [(false, .imm)] [⟨s24, .imm, x0⟩, ⟨(.int .i64), .imm, x1⟩] (fun r i => some (r, i)) = bindO (spec_l03Spot N x0 x1) fun r => some ([⟨s43, .imm, r⟩], []) := by
  show _ = bindF _ _
  conv => rhs; simp only [spec_l03Spot, bindF_ifB, bindF_bindO, bindF_pure, bindF_none, bindF_onSum, spec_l03Spot.q3]
  kernel_rfl
theorem spec_l03Spot.ok (N : Nat) : ConOk Try.prog 64 [.one, .one] (spec_l03Spot.con N) := ok2 (g := spec_l03Spot.cfg N) (N := N) (res := [(false, .imm)]) tys_ok (spec_l03Spot.cons N) mixed Try.func64 (spec_l03Spot.ls N) rfl (spec_l03Spot.b N)
theorem spec_l03Spot.det (N : Nat) : ConDet (spec_l03Spot.con N) := det2
def spec_LineCount.con (N : Nat) : Con := { modes := [.v], ptrs := [false], fn := fn1 s24 .imm (spec_LineCount N) (fun r => [⟨(.int .i64), .imm, r⟩]) (fun r => []) }
def spec_LineCount.cfg (N : Nat) : Cfg := { ty := tys, keep := [4, 10], flt := [], elm := elm0, live := [], ord := [], con := [((14, [.one]), spec_BufRight.con N), ((64, [.one, .one]), spec_l03Spot.con N)], loops := [], joins := [] }
theorem spec_LineCount.cons (N : Nat) : ConsOk Try.prog (spec_LineCount.cfg N).con := (consOk_cons (hb14) (spec_BufRight.ok N) (spec_BufRight.det N) (consOk_cons (hb64) (spec_l03Spot.ok N) (spec_l03Spot.det N) consOk_nil))
theorem spec_LineCount.ls (N : Nat) : LoopsOk Try.prog (spec_LineCount.cfg N) (fnBody Try.f81) := loopsL (l := []) (by kernel_rfl) trivial
theorem spec_LineCount.b (N : Nat) (x0 : den s24) : body (spec_LineCount.cfg N) N Try.f81 [.one] [.v] [(false, .imm)] [⟨s24, .imm, x0⟩] (fun r i => some (r, i)) = bindO (spec_LineCount N x0) fun r => some ([⟨(.int .i64), .imm, r⟩], []) := by
  show _ = bindF _ _
  conv => rhs; simp only [spec_LineCount, bindF_ifB, bindF_bindO, bindF_pure, bindF_none, bindF_onSum]
  kernel_rfl
theorem spec_LineCount.ok (N : Nat) : ConOk Try.prog 81 [.one] (spec_LineCount.con N) := ok1 (g := spec_LineCount.cfg N) (N := N) (res := [(false, .imm)]) tys_ok (spec_LineCount.cons N) mixed Try.func81 (spec_LineCount.ls N) rfl (spec_LineCount.b N)
theorem spec_LineCount.det (N : Nat) : ConDet (spec_LineCount.con N) := det1
def spec_l01Min.con (N : Nat) : Con := { modes := [.v, .v], ptrs := [false], fn := fn2 (.int .i64) .imm (.int .i64) .imm (spec_l01Min N) (fun r => [⟨(.int .i64), .imm, r⟩]) (fun r => []) }
def spec_l01Min.cfg (N : Nat) : Cfg := { ty := tys, keep := [], flt := [], elm := elm0, live := [], ord := [], con := [], loops := [], joins := [] }
theorem spec_l01Min.cons (N : Nat) : ConsOk Try.prog (spec_l01Min.cfg N).con := consOk_nil
theorem spec_l01Min.ls (N : Nat) : LoopsOk Try.prog (spec_l01Min.cfg N) (fnBody Try.f80) := loopsL (l := []) (by kernel_rfl) trivial
theorem spec_l01Min.b (N : Nat) (x0 : den (.int .i64)) (x1 : den (.int .i64)) : body (spec_l01Min.cfg N) N Try.f80 [.one, .one] [.v, .v] [(false, .imm)] [⟨(.int .i64), .imm, x0⟩, ⟨(.int .i64), .imm, x1⟩] (fun r i => some (r, i)) = bindO (spec_l01Min N x0 x1) fun r => some ([⟨(.int .i64), .imm, r⟩], []) := by
  show _ = bindF _ _
  conv => rhs; simp only [spec_l01Min, bindF_ifB, bindF_bindO, bindF_pure, bindF_none, bindF_onSum]
  kernel_rfl
theorem spec_l01Min.ok (N : Nat) : ConOk Try.prog 80 [.one, .one] (spec_l01Min.con N) := ok2 (g := spec_l01Min.cfg N) (N := N) (res := [(false, .imm)]) tys_ok (spec_l01Min.cons N) mixed Try.func80 (spec_l01Min.ls N) rfl (spec_l01Min.b N)
theorem spec_l01Min.det (N : Nat) : ConDet (spec_l01Min.con N) := det2
def spec_l01Max.con (N : Nat) : Con := { modes := [.v, .v], ptrs := [false], fn := fn2 (.int .i64) .imm (.int .i64) .imm (spec_l01Max N) (fun r => [⟨(.int .i64), .imm, r⟩]) (fun r => []) }
def spec_l01Max.cfg (N : Nat) : Cfg := { ty := tys, keep := [], flt := [], elm := elm0, live := [], ord := [], con := [], loops := [], joins := [] }
theorem spec_l01Max.cons (N : Nat) : ConsOk Try.prog (spec_l01Max.cfg N).con := consOk_nil
theorem spec_l01Max.ls (N : Nat) : LoopsOk Try.prog (spec_l01Max.cfg N) (fnBody Try.f79) := loopsL (l := []) (by kernel_rfl) trivial
theorem spec_l01Max.b (N : Nat) (x0 : den (.int .i64)) (x1 : den (.int .i64)) : body (spec_l01Max.cfg N) N Try.f79 [.one, .one] [.v, .v] [(false, .imm)] [⟨(.int .i64), .imm, x0⟩, ⟨(.int .i64), .imm, x1⟩] (fun r i => some (r, i)) = bindO (spec_l01Max N x0 x1) fun r => some ([⟨(.int .i64), .imm, r⟩], []) := by
  show _ = bindF _ _
  conv => rhs; simp only [spec_l01Max, bindF_ifB, bindF_bindO, bindF_pure, bindF_none, bindF_onSum]
  kernel_rfl
theorem spec_l01Max.ok (N : Nat) : ConOk Try.prog 79 [.one, .one] (spec_l01Max.con N) := ok2 (g := spec_l01Max.cfg N) (N := N) (res := [(false, .imm)]) tys_ok (spec_l01Max.cons N) mixed Try.func79 (spec_l01Max.ls N) rfl (spec_l01Max.b N)
theorem spec_l01Max.det (N : Nat) : ConDet (spec_l01Max.con N) := det2
def spec_l03End.sk1 : Skel := ⟨dd 1 (.pv (.int .i64) :: (.ptr 50 [] :: (dd 18 []))), [⟨50, s24, .imm, true, false⟩]⟩
def spec_l03End.xs1 : List XS := [⟨.exit 0, [1], ⟨dd 1 (.pv (.int .i64) :: (dd 19 [])), []⟩⟩]
def spec_l03End.con (N : Nat) : Con := { modes := [.v, .v], ptrs := [false], fn := fn2 s24 .imm (.int .i64) .imm (spec_l03End N) (fun r => [⟨(.int .i64), .imm, r⟩]) (fun r => []) }
def spec_l03End.cfg (N : Nat) : Cfg := { ty := tys, keep := [], flt := [], elm := elm0, live := [(1, [1, 2, 11, 12, 13, 14, 15, 16])], ord := [], con := [], loops := [(1, loopCon N spec_l03End.sk1 spec_l03End.xs1 (fun {R} => spec_l03End.l1 (R := R) N))], joins := [] }
theorem spec_l03End.cons (N : Nat) : ConsOk Try.prog (spec_l03End.cfg N).con := consOk_nil
theorem spec_l03End.h1 {R : Type} (N : Nat) (d : spec_l03End.sk1.D) (kn : spec_l03End.sk1.D → Option R) (kx : XD spec_l03End.xs1 → Option R) : roundK (spec_l03End.cfg N) N (nthLoop (fnBody Try.f82) 0) spec_l03End.sk1 spec_l03End.xs1 d kn kx = spec_l03End.l1 N d kn kx := by kernel_rfl
theorem spec_l03End.i1 (N : Nat) : LoopsOk Try.prog (spec_l03End.cfg N) (nthLoop (fnBody Try.f82) 0) := loopsL (l := []) (by kernel_rfl) trivial
theorem spec_l03End.o1 (N : Nat) : LoopOk Try.prog (nthLoop (fnBody Try.f82) 0) (loopCon N spec_l03End.sk1 spec_l03End.xs1 (fun {R} => spec_l03End.l1 (R := R) N)) := loop_ok (g := spec_l03End.cfg N) tys_ok (spec_l03End.cons N) mixed (spec_l03End.i1 N) (fun d kn kx => spec_l03End.h1 N d kn kx)
theorem spec_l03End.ls (N : Nat) : LoopsOk Try.prog (spec_l03End.cfg N) (fnBody Try.f82) := loopsL (l := [nthLoop (fnBody Try.f82) 0]) (by kernel_rfl) ⟨loopOne (L0 := loopCon N spec_l03End.sk1 spec_l03End.xs1 (fun {R} => spec_l03End.l1 (R := R) N)) (id := 1) (by kernel_rfl) (by kernel_rfl) (spec_l03End.o1 N), trivial⟩
theorem spec_l03End.q1 {R R' : Type} {N n : Nat} {d} {k} {g : R → Option R'} : bindF (loopP (spec_l03End.l1 N) n d k) g = loopP (spec_l03End.l1 N) n d fun e => bindF (k e) g := bindF_loopP (fun d kn kx => by simp only [spec_l03End.l1, bindF_ifB, bindF_bindO, bindF_pure, bindF_none, bindF_onSum]) n d k
theorem spec_l03End.b (N : Nat) (x0 : den s24) (x1 : den (.int .i64)) : body (spec_l03End.cfg N) N Try.f82 [.one, .one] [.v, .v] [(false, .imm)] [⟨s24, .imm, x0⟩, ⟨(.int .i64), .imm, x1⟩] (fun r i => some (r, i)) = bindO (spec_l03End N x0 x1) fun r => some ([⟨(.int .i64), .imm, r⟩], []) := by
  show _ = bindF _ _
  conv => rhs; simp only [spec_l03End, bindF_ifB, bindF_bindO, bindF_pure, bindF_none, bindF_onSum, spec_l03End.q1]
  kernel_rfl
theorem spec_l03End.ok (N : Nat) : ConOk Try.prog 82 [.one, .one] (spec_l03End.con N) := ok2 (g := spec_l03End.cfg N) (N := N) (res := [(false, .imm)]) tys_ok (spec_l03End.cons N) mixed Try.func82 (spec_l03End.ls N) rfl (spec_l03End.b N)
theorem spec_l03End.det (N : Nat) : ConDet (spec_l03End.con N) := det2
def spec_PlaceOf.sk5 : Skel := ⟨dd 2 (.ptr 50 [] :: (.ptr 51 [] :: (dd 1 (.pv (.int .i64) :: (.pv (.int .i64) :: (dd 37 [])))))), [⟨50, s24, .imm, true, false⟩, ⟨51, s43, .imm, true, false⟩]⟩
def spec_PlaceOf.xs5 : List XS := [⟨.exit 0, [2, 3, 6], ⟨dd 2 (.ptr 50 [] :: (.ptr 51 [] :: (dd 2 (.pv (.int .i64) :: (dd 37 []))))), [⟨50, s24, .imm, true, false⟩, ⟨51, s43, .imm, true, false⟩]⟩⟩]
def spec_PlaceOf.con (N : Nat) : Con := { modes := [.v, .v], ptrs := [false], fn := fn2 s24 .imm s43 .imm (spec_PlaceOf N) (fun r => [⟨(.int .i64), .imm, r⟩]) (fun r => []) }
def spec_PlaceOf.cfg (N : Nat) : Cfg := { ty := tys, keep := [9, 14, 16, 17, 24, 28], flt := [], elm := elm0, live := [(5, [2, 3, 5, 6])], ord := [(3, [0, 1, 2, 3, 4, 5, 6, 7])], con := [((14, [.one]), spec_BufRight.con N), ((81, [.one]), spec_LineCount.con N), ((80, [.one, .one]), spec_l01Min.con N), ((79, [.one, .one]), spec_l01Max.con N), ((82, [.one, .one]), spec_l03End.con N)], loops := [(5, loopCon N spec_PlaceOf.sk5 spec_PlaceOf.xs5 (fun {R} => spec_PlaceOf.l5 (R := R) N))], joins := [] }
theorem spec_PlaceOf.cons (N : Nat) : ConsOk Try.prog (spec_PlaceOf.cfg N).con := (consOk_cons (hb14) (spec_BufRight.ok N) (spec_BufRight.det N) (consOk_cons (hb81) (spec_LineCount.ok N) (spec_LineCount.det N) (consOk_cons (hb80) (spec_l01Min.ok N) (spec_l01Min.det N) (consOk_cons (hb79) (spec_l01Max.ok N) (spec_l01Max.det N) (consOk_cons (hb82) (spec_l03End.ok N) (spec_l03End.det N) consOk_nil)))))
theorem spec_PlaceOf.h5 {R : Type} (N : Nat) (d : spec_PlaceOf.sk5.D) (kn : spec_PlaceOf.sk5.D → Option R) (kx : XD spec_PlaceOf.xs5 → Option R) : roundK (spec_PlaceOf.cfg N) N (nthLoop (fnBody Try.f65) 0) spec_PlaceOf.sk5 spec_PlaceOf.xs5 d kn kx = spec_PlaceOf.l5 N d kn kx := by kernel_rfl
theorem spec_PlaceOf.i5 (N : Nat) : LoopsOk Try.prog (spec_PlaceOf.cfg N) (nthLoop (fnBody Try.f65) 0) := loopsL (l := []) (by kernel_rfl) trivial
theorem spec_PlaceOf.o5 (N : Nat) : LoopOk Try.prog (nthLoop (fnBody Try.f65) 0) (loopCon N spec_PlaceOf.sk5 spec_PlaceOf.xs5 (fun {R} => spec_PlaceOf.l5 (R := R) N)) := loop_ok (g := spec_PlaceOf.cfg N) tys_ok (spec_PlaceOf.cons N) mixed (spec_PlaceOf.i5 N) (fun d kn kx => spec_PlaceOf.h5 N d kn kx)
theorem spec_PlaceOf.ls (N : Nat) : LoopsOk Try.prog (spec_PlaceOf.cfg N) (fnBody Try.f65) := loopsL (l := [nthLoop (fnBody Try.f65) 0]) (by kernel_rfl) ⟨loopOne (L0 := loopCon N spec_PlaceOf.sk5 spec_PlaceOf.xs5 (fun {R} => spec_PlaceOf.l5 (R := R) N)) (id := 5) (by kernel_rfl) (by kernel_rfl) (spec_PlaceOf.o5 N), trivial⟩
theorem spec_PlaceOf.q5 {R R' : Type} {N n : Nat} {d} {k} {g : R → Option R'} : bindF (loopP (spec_PlaceOf.l5 N) n d k) g = loopP (spec_PlaceOf.l5 N) n d fun e => bindF (k e) g := bindF_loopP (fun d kn kx => by simp only [spec_PlaceOf.l5, bindF_ifB, bindF_bindO, bindF_pure, bindF_none, bindF_onSum]) n d k
theorem spec_PlaceOf.b (N : Nat) (x0 : den s24) (x1 : den s43) : body (spec_PlaceOf.cfg N) N Try.f65 [.one, .one] [.v, .v] [(false, .imm)] [⟨s24, .imm, x0⟩, ⟨s43, .imm, x1⟩] (fun r i => some (r, i)) = bindO (spec_PlaceOf N x0 x1) fun r => some ([⟨(.int .i64), .imm, r⟩], []) := by
  show _ = bindF _ _
  conv => rhs; simp only [spec_PlaceOf, bindF_ifB, bindF_bindO, bindF_pure, bindF_none, bindF_onSum, spec_PlaceOf.q5]
  kernel_rfl
theorem spec_PlaceOf.ok (N : Nat) : ConOk Try.prog 65 [.one, .one] (spec_PlaceOf.con N) := ok2 (g := spec_PlaceOf.cfg N) (N := N) (res := [(false, .imm)]) tys_ok (spec_PlaceOf.cons N) mixed Try.func65 (spec_PlaceOf.ls N) rfl (spec_PlaceOf.b N)
theorem spec_PlaceOf.det (N : Nat) : ConDet (spec_PlaceOf.con N) := det2
def spec_ClassOf.con (N : Nat) : Con := { modes := [.v], ptrs := [false], fn := fn1 (.int .i64) .imm (spec_ClassOf N) (fun r => [⟨(.int .i64), .imm, r⟩]) (fun r => []) }
def spec_ClassOf.cfg (N : Nat) : Cfg := { ty := tys, keep := [4], flt := [], elm := elm0, live := [], ord := [], con := [((38, [.one]), spec_l01Point.con N)], loops := [], joins := [] }
theorem spec_ClassOf.cons (N : Nat) : ConsOk Try.prog (spec_ClassOf.cfg N).con := (consOk_cons (hb38) (spec_l01Point.ok N) (spec_l01Point.det N) consOk_nil)
theorem spec_ClassOf.ls (N : Nat) : LoopsOk Try.prog (spec_ClassOf.cfg N) (fnBody Try.f83) := loopsL (l := []) (by kernel_rfl) trivial
theorem spec_ClassOf.b (N : Nat) (x0 : den (.int .i64)) : body (spec_ClassOf.cfg N) N Try.f83 [.one] [.v] [(false, .imm)] [⟨(.int .i64), .imm, x0⟩] (fun r i => some (r, i)) = bindO (spec_ClassOf N x0) fun r => some ([⟨(.int .i64), .imm, r⟩], []) := by
  show _ = bindF _ _
  conv => rhs; simp only [spec_ClassOf, bindF_ifB, bindF_bindO, bindF_pure, bindF_none, bindF_onSum]
  kernel_rfl
theorem spec_ClassOf.ok (N : Nat) : ConOk Try.prog 83 [.one] (spec_ClassOf.con N) := ok1 (g := spec_ClassOf.cfg N) (N := N) (res := [(false, .imm)]) tys_ok (spec_ClassOf.cons N) mixed Try.func83 (spec_ClassOf.ls N) rfl (spec_ClassOf.b N)
theorem spec_ClassOf.det (N : Nat) : ConDet (spec_ClassOf.con N) := det1
def spec_l03Step.sk8 : Skel := ⟨dd 1 (.pv (.int .i64) :: (dd 2 (.ptr 50 [] :: (dd 114 [])))), [⟨50, s24, .imm, true, false⟩]⟩
def spec_l03Step.xs8 : List XS := [⟨.exit 1, [1, 4, 45, 46, 47, 48, 49, 50, 51, 52], ⟨dd 1 (.pv (.int .i64) :: (dd 2 (.ptr 50 [] :: (dd 114 [])))), [⟨50, s24, .imm, true, false⟩]⟩⟩]
def spec_l03Step.sk10 : Skel := ⟨dd 1 (.pv (.int .i64) :: (dd 2 (.ptr 50 [] :: (dd 114 [])))), [⟨50, s24, .imm, true, false⟩]⟩
def spec_l03Step.xs10 : List XS := [⟨.exit 3, [1], ⟨dd 1 (.pv (.int .i64) :: (dd 117 [])), []⟩⟩]
def spec_l03Step.sk14 : Skel := ⟨dd 1 (.pv (.int .i64) :: (dd 2 (.ptr 50 [] :: (dd 4 (.pv (.int .i64) :: (dd 109 [])))))), [⟨50, s24, .imm, true, false⟩]⟩
def spec_l03Step.xs14 : List XS := [⟨.exit 5, [1, 4, 9, 77, 78, 79, 80, 81, 82, 83], ⟨dd 1 (.pv (.int .i64) :: (dd 2 (.ptr 50 [] :: (dd 4 (.pv (.int .i64) :: (dd 109 [])))))), [⟨50, s24, .imm, true, false⟩]⟩⟩]
def spec_l03Step.sk16 : Skel := ⟨dd 1 (.pv (.int .i64) :: (dd 2 (.ptr 50 [] :: (dd 4 (.pv (.int .i64) :: (dd 109 [])))))), [⟨50, s24, .imm, true, false⟩]⟩
def spec_l03Step.xs16 : List XS := [⟨.exit 7, [1], ⟨dd 1 (.pv (.int .i64) :: (dd 117 [])), []⟩⟩]
def spec_l03Step.sk28 : Skel := ⟨dd 1 (.pv (.int .i64) :: (dd 1 (.pv (.int .i64) :: (.ptr 50 [] :: (dd 4 (.pv (.int .i64) :: (.pv (.int .i64) :: (dd 108 [])))))))), [⟨50, s24, .imm, true, false⟩]⟩
def spec_l03Step.xs28 : List XS := [⟨.exit 9, [1], ⟨dd 1 (.pv (.int .i64) :: (dd 117 [])), []⟩⟩, ⟨.ret, [8], ⟨dd 8 (.pv (.int .i64) :: (dd 110 [])), []⟩⟩]
def spec_l03Step.con (N : Nat) : Con := { modes := [.v, .v, .v, .v], ptrs := [false], fn := fn4 s24 .imm (.int .i64) .imm (.int .i64) .imm (.int .i64) .imm (spec_l03Step N) (fun r => [⟨(.int .i64), .imm, r⟩]) (fun r => []) }
def spec_l03Step.cfg (N : Nat) : Cfg := { ty := tys, keep := [19, 25, 37, 51, 68, 82, 92, 97], flt := [], elm := elm0, live := [(28, [1, 3, 4, 9, 10]), (10, [1, 4, 45, 46, 47, 48, 49, 50, 51, 52]), (8, [1, 4, 31, 32, 33, 34, 35, 36, 37, 38, 45, 46, 47, 48, 49, 50, 51, 52]), (16, [1, 4, 9, 77, 78, 79, 80, 81, 82, 83]), (14, [1, 4, 9, 63, 64, 65, 66, 67, 68, 69, 77, 78, 79, 80, 81, 82, 83])], ord := [], con := [((79, [.one, .one]), spec_l01Max.con N), ((80, [.one, .one]), spec_l01Min.con N), ((83, [.one]), spec_ClassOf.con N), ((78, [.one, .one]), spec_l03Start.con N), ((82, [.one, .one]), spec_l03End.con N)], loops := [(8, loopCon N spec_l03Step.sk8 spec_l03Step.xs8 (fun {R} => spec_l03Step.l8 (R := R) N)), (10, loopCon N spec_l03Step.sk10 spec_l03Step.xs10 (fun {R} => spec_l03Step.l10 (R := R) N)), (14, loopCon N spec_l03Step.sk14 spec_l03Step.xs14 (fun {R} => spec_l03Step.l14 (R := R) N)), (16, loopCon N spec_l03Step.sk16 spec_l03Step.xs16 (fun {R} => spec_l03Step.l16 (R := R) N)), (28, loopCon N spec_l03Step.sk28 spec_l03Step.xs28 (fun {R} => spec_l03Step.l28 (R := R) N))], joins := [] }
theorem spec_l03Step.cons (N : Nat) : ConsOk Try.prog (spec_l03Step.cfg N).con := (consOk_cons (hb79) (spec_l01Max.ok N) (spec_l01Max.det N) (consOk_cons (hb80) (spec_l01Min.ok N) (spec_l01Min.det N) (consOk_cons (hb83) (spec_ClassOf.ok N) (spec_ClassOf.det N) (consOk_cons (hb78) (spec_l03Start.ok N) (spec_l03Start.det N) (consOk_cons (hb82) (spec_l03End.ok N) (spec_l03End.det N) consOk_nil)))))
theorem spec_l03Step.h28 {R : Type} (N : Nat) (d : spec_l03Step.sk28.D) (kn : spec_l03Step.sk28.D → Option R) (kx : XD spec_l03Step.xs28 → Option R) : roundK (spec_l03Step.cfg N) N (nthLoop (fnBody Try.f66) 4) spec_l03Step.sk28 spec_l03Step.xs28 d kn kx = spec_l03Step.l28 N d kn kx := by kernel_rfl
theorem spec_l03Step.i28 (N : Nat) : LoopsOk Try.prog (spec_l03Step.cfg N) (nthLoop (fnBody Try.f66) 4) := loopsL (l := []) (by kernel_rfl) trivial
theorem spec_l03Step.o28 (N : Nat) : LoopOk Try.prog (nthLoop (fnBody Try.f66) 4) (loopCon N spec_l03Step.sk28 spec_l03Step.xs28 (fun {R} => spec_l03Step.l28 (R := R) N)) := loop_ok (g := spec_l03Step.cfg N) tys_ok (spec_l03Step.cons N) mixed (spec_l03Step.i28 N) (fun d kn kx => spec_l03Step.h28 N d kn kx)
theorem spec_l03Step.h16 {R : Type} (N : Nat) (d : spec_l03Step.sk16.D) (kn : spec_l03Step.sk16.D → Option R) (kx : XD spec_l03Step.xs16 → Option R) : roundK (spec_l03Step.cfg N) N (nthLoop (fnBody Try.f66) 3) spec_l03Step.sk16 spec_l03Step.xs16 d kn kx = spec_l03Step.l16 N d kn kx := by kernel_rfl
theorem spec_l03Step.i16 (N : Nat) : LoopsOk Try.prog (spec_l03Step.cfg N) (nthLoop (fnBody Try.f66) 3) := loopsL (l := []) (by kernel_rfl) trivial
theorem spec_l03Step.o16 (N : Nat) : LoopOk Try.prog (nthLoop (fnBody Try.f66) 3) (loopCon N spec_l03Step.sk16 spec_l03Step.xs16 (fun {R} => spec_l03Step.l16 (R := R) N)) := loop_ok (g := spec_l03Step.cfg N) tys_ok (spec_l03Step.cons N) mixed (spec_l03Step.i16 N) (fun d kn kx => spec_l03Step.h16 N d kn kx)
theorem spec_l03Step.h14 {R : Type} (N : Nat) (d : spec_l03Step.sk14.D) (kn : spec_l03Step.sk14.D → Option R) (kx : XD spec_l03Step.xs14 → Option R) : roundK (spec_l03Step.cfg N) N (nthLoop (fnBody Try.f66) 2) spec_l03Step.sk14 spec_l03Step.xs14 d kn kx = spec_l03Step.l14 N d kn kx := by kernel_rfl
theorem spec_l03Step.i14 (N : Nat) : LoopsOk Try.prog (spec_l03Step.cfg N) (nthLoop (fnBody Try.f66) 2) := loopsL (l := []) (by kernel_rfl) trivial
theorem spec_l03Step.o14 (N : Nat) : LoopOk Try.prog (nthLoop (fnBody Try.f66) 2) (loopCon N spec_l03Step.sk14 spec_l03Step.xs14 (fun {R} => spec_l03Step.l14 (R := R) N)) := loop_ok (g := spec_l03Step.cfg N) tys_ok (spec_l03Step.cons N) mixed (spec_l03Step.i14 N) (fun d kn kx => spec_l03Step.h14 N d kn kx)
theorem spec_l03Step.h10 {R : Type} (N : Nat) (d : spec_l03Step.sk10.D) (kn : spec_l03Step.sk10.D → Option R) (kx : XD spec_l03Step.xs10 → Option R) : roundK (spec_l03Step.cfg N) N (nthLoop (fnBody Try.f66) 1) spec_l03Step.sk10 spec_l03Step.xs10 d kn kx = spec_l03Step.l10 N d kn kx := by kernel_rfl
theorem spec_l03Step.i10 (N : Nat) : LoopsOk Try.prog (spec_l03Step.cfg N) (nthLoop (fnBody Try.f66) 1) := loopsL (l := []) (by kernel_rfl) trivial
theorem spec_l03Step.o10 (N : Nat) : LoopOk Try.prog (nthLoop (fnBody Try.f66) 1) (loopCon N spec_l03Step.sk10 spec_l03Step.xs10 (fun {R} => spec_l03Step.l10 (R := R) N)) := loop_ok (g := spec_l03Step.cfg N) tys_ok (spec_l03Step.cons N) mixed (spec_l03Step.i10 N) (fun d kn kx => spec_l03Step.h10 N d kn kx)
theorem spec_l03Step.h8 {R : Type} (N : Nat) (d : spec_l03Step.sk8.D) (kn : spec_l03Step.sk8.D → Option R) (kx : XD spec_l03Step.xs8 → Option R) : roundK (spec_l03Step.cfg N) N (nthLoop (fnBody Try.f66) 0) spec_l03Step.sk8 spec_l03Step.xs8 d kn kx = spec_l03Step.l8 N d kn kx := by kernel_rfl
theorem spec_l03Step.i8 (N : Nat) : LoopsOk Try.prog (spec_l03Step.cfg N) (nthLoop (fnBody Try.f66) 0) := loopsL (l := []) (by kernel_rfl) trivial
theorem spec_l03Step.o8 (N : Nat) : LoopOk Try.prog (nthLoop (fnBody Try.f66) 0) (loopCon N spec_l03Step.sk8 spec_l03Step.xs8 (fun {R} => spec_l03Step.l8 (R := R) N)) := loop_ok (g := spec_l03Step.cfg N) tys_ok (spec_l03Step.cons N) mixed (spec_l03Step.i8 N) (fun d kn kx => spec_l03Step.h8 N d kn kx)
theorem spec_l03Step.ls (N : Nat) : LoopsOk Try.prog (spec_l03Step.cfg N) (fnBody Try.f66) := loopsL (l := [nthLoop (fnBody Try.f66) 0, nthLoop (fnBody Try.f66) 1, nthLoop (fnBody Try.f66) 2, nthLoop (fnBody Try.f66) 3, nthLoop (fnBody Try.f66) 4]) (by kernel_rfl) ⟨loopOne (L0 := loopCon N spec_l03Step.sk8 spec_l03Step.xs8 (fun {R} => spec_l03Step.l8 (R := R) N)) (id := 8) (by kernel_rfl) (by kernel_rfl) (spec_l03Step.o8 N), ⟨loopOne (L0 := loopCon N spec_l03Step.sk10 spec_l03Step.xs10 (fun {R} => spec_l03Step.l10 (R := R) N)) (id := 10) (by kernel_rfl) (by kernel_rfl) (spec_l03Step.o10 N), ⟨loopOne (L0 := loopCon N spec_l03Step.sk14 spec_l03Step.xs14 (fun {R} => spec_l03Step.l14 (R := R) N)) (id := 14) (by kernel_rfl) (by kernel_rfl) (spec_l03Step.o14 N), ⟨loopOne (L0 := loopCon N spec_l03Step.sk16 spec_l03Step.xs16 (fun {R} => spec_l03Step.l16 (R := R) N)) (id := 16) (by kernel_rfl) (by kernel_rfl) (spec_l03Step.o16 N), ⟨loopOne (L0 := loopCon N spec_l03Step.sk28 spec_l03Step.xs28 (fun {R} => spec_l03Step.l28 (R := R) N)) (id := 28) (by kernel_rfl) (by kernel_rfl) (spec_l03Step.o28 N), trivial⟩⟩⟩⟩⟩
theorem spec_l03Step.q28 {R R' : Type} {N n : Nat} {d} {k} {g : R → Option R'} : bindF (loopP (spec_l03Step.l28 N) n d k) g = loopP (spec_l03Step.l28 N) n d fun e => bindF (k e) g := bindF_loopP (fun d kn kx => by simp only [spec_l03Step.l28, bindF_ifB, bindF_bindO, bindF_pure, bindF_none, bindF_onSum]) n d k
theorem spec_l03Step.q16 {R R' : Type} {N n : Nat} {d} {k} {g : R → Option R'} : bindF (loopP (spec_l03Step.l16 N) n d k) g = loopP (spec_l03Step.l16 N) n d fun e => bindF (k e) g := bindF_loopP (fun d kn kx => by simp only [spec_l03Step.l16, bindF_ifB, bindF_bindO, bindF_pure, bindF_none, bindF_onSum]) n d k
theorem spec_l03Step.q14 {R R' : Type} {N n : Nat} {d} {k} {g : R → Option R'} : bindF (loopP (spec_l03Step.l14 N) n d k) g = loopP (spec_l03Step.l14 N) n d fun e => bindF (k e) g := bindF_loopP (fun d kn kx => by simp only [spec_l03Step.l14, bindF_ifB, bindF_bindO, bindF_pure, bindF_none, bindF_onSum]) n d k
theorem spec_l03Step.q10 {R R' : Type} {N n : Nat} {d} {k} {g : R → Option R'} : bindF (loopP (spec_l03Step.l10 N) n d k) g = loopP (spec_l03Step.l10 N) n d fun e => bindF (k e) g := bindF_loopP (fun d kn kx => by simp only [spec_l03Step.l10, bindF_ifB, bindF_bindO, bindF_pure, bindF_none, bindF_onSum]) n d k
theorem spec_l03Step.q8 {R R' : Type} {N n : Nat} {d} {k} {g : R → Option R'} : bindF (loopP (spec_l03Step.l8 N) n d k) g = loopP (spec_l03Step.l8 N) n d fun e => bindF (k e) g := bindF_loopP (fun d kn kx => by simp only [spec_l03Step.l8, bindF_ifB, bindF_bindO, bindF_pure, bindF_none, bindF_onSum]) n d k
theorem spec_l03Step.b (N : Nat) (x0 : den s24) (x1 : den (.int .i64)) (x2 : den (.int .i64)) (x3 : den (.int .i64)) : body (spec_l03Step.cfg N) N Try.f66 [.one, .one, .one, .one] [.v, .v, .v, .v] [(false, .imm)] [⟨s24, .imm, x0⟩, ⟨(.int .i64), .imm, x1⟩, ⟨(.int .i64), .imm, x2⟩, ⟨(.int .i64), .imm, x3⟩] (fun r i => some (r, i)) = bindO (spec_l03Step N x0 x1 x2 x3) fun r => some ([⟨(.int .i64), .imm, r⟩], []) := by
  show _ = bindF _ _
  conv => rhs; simp only [spec_l03Step, bindF_ifB, bindF_bindO, bindF_pure, bindF_none, bindF_onSum, spec_l03Step.q8, spec_l03Step.q10, spec_l03Step.q14, spec_l03Step.q16, spec_l03Step.q28]
  kernel_rfl
theorem spec_l03Step.ok (N : Nat) : ConOk Try.prog 66 [.one, .one, .one, .one] (spec_l03Step.con N) := ok4 (g := spec_l03Step.cfg N) (N := N) (res := [(false, .imm)]) tys_ok (spec_l03Step.cons N) mixed Try.func66 (spec_l03Step.ls N) rfl (spec_l03Step.b N)
theorem spec_l03Step.det (N : Nat) : ConDet (spec_l03Step.con N) := det4
def spec_Motion.sk10 : Skel := ⟨dd 1 (.pv (.int .i64) :: (.pv (.int .i64) :: (.pv (.int .i64) :: (.ptr 50 [] :: (dd 5 (.pv (.int .i64) :: (dd 56 []))))))), [⟨50, s24, .imm, true, false⟩]⟩
def spec_Motion.xs10 : List XS := [⟨.exit 0, [10], ⟨dd 10 (.pv (.int .i64) :: (dd 56 [])), []⟩⟩]
def spec_Motion.con (N : Nat) : Con := { modes := [.v, .v, .v, .v], ptrs := [false], fn := fn4 s24 .imm (.int .i64) .imm (.int .i64) .imm (.int .i64) .imm (spec_Motion N) (fun r => [⟨(.int .i64), .imm, r⟩]) (fun r => []) }
def spec_Motion.cfg (N : Nat) : Cfg := { ty := tys, keep := [12, 39, 54, 65], flt := [], elm := elm0, live := [(10, [1, 2, 3, 4, 10])], ord := [], con := [((14, [.one]), spec_BufRight.con N), ((64, [.one, .one]), spec_l03Spot.con N), ((65, [.one, .one]), spec_PlaceOf.con N), ((66, [.one, .one, .one, .one]), spec_l03Step.con N)], loops := [(10, loopCon N spec_Motion.sk10 spec_Motion.xs10 (fun {R} => spec_Motion.l10 (R := R) N))], joins := [] }
theorem spec_Motion.cons (N : Nat) : ConsOk Try.prog (spec_Motion.cfg N).con := (consOk_cons (hb14) (spec_BufRight.ok N) (spec_BufRight.det N) (consOk_cons (hb64) (spec_l03Spot.ok N) (spec_l03Spot.det N) (consOk_cons (hb65) (spec_PlaceOf.ok N) (spec_PlaceOf.det N) (consOk_cons (hb66) (spec_l03Step.ok N) (spec_l03Step.det N) consOk_nil))))
theorem spec_Motion.h10 {R : Type} (N : Nat) (d : spec_Motion.sk10.D) (kn : spec_Motion.sk10.D → Option R) (kx : XD spec_Motion.xs10 → Option R) : roundK (spec_Motion.cfg N) N (nthLoop (fnBody Try.f44) 0) spec_Motion.sk10 spec_Motion.xs10 d kn kx = spec_Motion.l10 N d kn kx := by kernel_rfl
theorem spec_Motion.i10 (N : Nat) : LoopsOk Try.prog (spec_Motion.cfg N) (nthLoop (fnBody Try.f44) 0) := loopsL (l := []) (by kernel_rfl) trivial
theorem spec_Motion.o10 (N : Nat) : LoopOk Try.prog (nthLoop (fnBody Try.f44) 0) (loopCon N spec_Motion.sk10 spec_Motion.xs10 (fun {R} => spec_Motion.l10 (R := R) N)) := loop_ok (g := spec_Motion.cfg N) tys_ok (spec_Motion.cons N) mixed (spec_Motion.i10 N) (fun d kn kx => spec_Motion.h10 N d kn kx)
theorem spec_Motion.ls (N : Nat) : LoopsOk Try.prog (spec_Motion.cfg N) (fnBody Try.f44) := loopsL (l := [nthLoop (fnBody Try.f44) 0]) (by kernel_rfl) ⟨loopOne (L0 := loopCon N spec_Motion.sk10 spec_Motion.xs10 (fun {R} => spec_Motion.l10 (R := R) N)) (id := 10) (by kernel_rfl) (by kernel_rfl) (spec_Motion.o10 N), trivial⟩
theorem spec_Motion.q10 {R R' : Type} {N n : Nat} {d} {k} {g : R → Option R'} : bindF (loopP (spec_Motion.l10 N) n d k) g = loopP (spec_Motion.l10 N) n d fun e => bindF (k e) g := bindF_loopP (fun d kn kx => by simp only [spec_Motion.l10, bindF_ifB, bindF_bindO, bindF_pure, bindF_none, bindF_onSum]) n d k
theorem spec_Motion.b (N : Nat) (x0 : den s24) (x1 : den (.int .i64)) (x2 : den (.int .i64)) (x3 : den (.int .i64)) : body (spec_Motion.cfg N) N Try.f44 [.one, .one, .one, .one] [.v, .v, .v, .v] [(false, .imm)] [⟨s24, .imm, x0⟩, ⟨(.int .i64), .imm, x1⟩, ⟨(.int .i64), .imm, x2⟩, ⟨(.int .i64), .imm, x3⟩] (fun r i => some (r, i)) = bindO (spec_Motion N x0 x1 x2 x3) fun r => some ([⟨(.int .i64), .imm, r⟩], []) := by
  show _ = bindF _ _
  conv => rhs; simp only [spec_Motion, bindF_ifB, bindF_bindO, bindF_pure, bindF_none, bindF_onSum, spec_Motion.q10]
  kernel_rfl
theorem spec_Motion.ok (N : Nat) : ConOk Try.prog 44 [.one, .one, .one, .one] (spec_Motion.con N) := ok4 (g := spec_Motion.cfg N) (N := N) (res := [(false, .imm)]) tys_ok (spec_Motion.cons N) mixed Try.func44 (spec_Motion.ls N) rfl (spec_Motion.b N)
theorem spec_Motion.det (N : Nat) : ConDet (spec_Motion.con N) := det4
def spec_BufMove.con (N : Nat) : Con := { modes := [.v, .v, .v, .v], ptrs := [false], fn := fn4 s24 .imm (.int .i64) .imm (.int .i64) .imm (.int .i64) .imm (spec_BufMove N) (fun r => [⟨s24, (.pr (.own .imm) .imm), r⟩]) (fun r => []) }
def spec_BufMove.cfg (N : Nat) : Cfg := { ty := tys, keep := [12, 17], flt := [], elm := elm0, live := [], ord := [], con := [((24, [.one]), spec_l02Copy.con N), ((44, [.one, .one, .one, .one]), spec_Motion.con N)], loops := [], joins := [] }
theorem spec_BufMove.cons (N : Nat) : ConsOk Try.prog (spec_BufMove.cfg N).con := (consOk_cons (hb24) (spec_l02Copy.ok N) (spec_l02Copy.det N) (consOk_cons (hb44) (spec_Motion.ok N) (spec_Motion.det N) consOk_nil))
theorem spec_BufMove.ls (N : Nat) : LoopsOk Try.prog (spec_BufMove.cfg N) (fnBody Try.f30) := loopsL (l := []) (by kernel_rfl) trivial
theorem spec_BufMove.b (N : Nat) (x0 : den s24) (x1 : den (.int .i64)) (x2 : den (.int .i64)) (x3 : den (.int .i64)) : body (spec_BufMove.cfg N) N Try.f30 [.one, .one, .one, .one] [.v, .v, .v, .v] [(false, (.pr (.own .imm) .imm))] [⟨s24, .imm, x0⟩, ⟨(.int .i64), .imm, x1⟩, ⟨(.int .i64), .imm, x2⟩, ⟨(.int .i64), .imm, x3⟩] (fun r i => some (r, i)) = bindO (spec_BufMove N x0 x1 x2 x3) fun r => some ([⟨s24, (.pr (.own .imm) .imm), r⟩], []) := by
  show _ = bindF _ _
  conv => rhs; simp only [spec_BufMove, bindF_ifB, bindF_bindO, bindF_pure, bindF_none, bindF_onSum]
  kernel_rfl
theorem spec_BufMove.ok (N : Nat) : ConOk Try.prog 30 [.one, .one, .one, .one] (spec_BufMove.con N) := ok4 (g := spec_BufMove.cfg N) (N := N) (res := [(false, (.pr (.own .imm) .imm))]) tys_ok (spec_BufMove.cons N) mixed Try.func30 (spec_BufMove.ls N) rfl (spec_BufMove.b N)
theorem spec_BufMove.det (N : Nat) : ConDet (spec_BufMove.con N) := det4
end Go.AE.F
end
