/- The printed functions are what the program comes to: contracts. -/
import Derived.Test.YtcgbobehdjgjpaaGreatLViBackL0
noncomputable section
namespace Go.AE.F
open Go.AE Go.Proofs
set_option maxRecDepth 100000
def zAH.sk4 : Skel := ⟨.pv s23 :: (dd 2 (.pv (.int .i64) :: (dd 15 []))), []⟩
def zAH.xs4 : List XS := [⟨.exit 0, [], ⟨dd 19 [], []⟩⟩, ⟨.ret, [2], ⟨dd 2 (.pv .bool :: (dd 16 [])), []⟩⟩]
def zAH.con (N : Nat) : Con := { modes := [.v], ptrs := [false], fn := fn1 s23 .imm (zAH N) (fun r => [⟨.bool, .imm, r⟩]) (fun r => []) }
def zAH.cfg (N : Nat) : Cfg := { ty := tys, keep := [17], flt := [], elm := elm0, live := [(4, [0, 3])], ord := [], con := [((32, [.one]), zBV.con N)], loops := [(4, loopCon N zAH.sk4 zAH.xs4 (fun {R} => zAH.l4 (R := R) N))], joins := [] }
theorem zAH.cons (N : Nat) : ConsOk Tryz.prog (zAH.cfg N).con := (consOk_cons (hb32) (zBV.ok N) (zBV.det N) consOk_nil)
theorem zAH.h4 {R : Type} (N : Nat) (d : zAH.sk4.D) (kn : zAH.sk4.D → Option R) (kx : XD zAH.xs4 → Option R) : roundK (zAH.cfg N) N (nthLoop (fnBody Tryz.f19) 0) zAH.sk4 zAH.xs4 d kn kx = zAH.l4 N d kn kx := by kernel_rfl
theorem zAH.i4 (N : Nat) : LoopsOk Tryz.prog (zAH.cfg N) (nthLoop (fnBody Tryz.f19) 0) := loopsL (l := []) (by kernel_rfl) trivial
theorem zAH.o4 (N : Nat) : LoopOk Tryz.prog (nthLoop (fnBody Tryz.f19) 0) (loopCon N zAH.sk4 zAH.xs4 (fun {R} => zAH.l4 (R := R) N)) := loop_ok (g := zAH.cfg N) tys_ok (zAH.cons N) mixed (zAH.i4 N) (fun d kn kx => zAH.h4 N d kn kx)
theorem zAH.ls (N : Nat) : LoopsOk Tryz.prog (zAH.cfg N) (fnBody Tryz.f19) := loopsL (l := [nthLoop (fnBody Tryz.f19) 0]) (by kernel_rfl) ⟨loopOne (L0 := loopCon N zAH.sk4 zAH.xs4 (fun {R} => zAH.l4 (R := R) N)) (id := 4) (by kernel_rfl) (by kernel_rfl) (zAH.o4 N), trivial⟩
theorem zAH.q4 {R R' : Type} {N n : Nat} {d} {k} {g : R → Option R'} : bindF (loopP (zAH.l4 N) n d k) g = loopP (zAH.l4 N) n d fun e => bindF (k e) g := bindF_loopP (fun d kn kx => by simp only [zAH.l4, bindF_ifB, bindF_bindO, bindF_pure, bindF_none, bindF_onSum]) n d k
theorem zAH.b (N : Nat) (x0 : den s23) : body (zAH.cfg N) N Tryz.f19 [.one] [.v] [(false, .imm)] [⟨s23, .imm, x0⟩] (fun r i => some (r, i)) = bindO (zAH N x0) fun r => some ([⟨.bool, .imm, r⟩], []) := by
  show _ = bindF _ _
  conv => rhs; simp only [zAH, bindF_ifB, bindF_bindO, bindF_pure, bindF_none, bindF_onSum, zAH.q4]
  kernel_rfl
theorem zAH.ok (N : Nat) : ConOk Tryz.prog 19 [.one] (zAH.con N) := ok1 (g := zAH.cfg N) (N := N) (res := [(false, .imm)]) tys_ok (zAH.cons N) mixed Tryz.func19 (zAH.ls N) rfl (zAH.b N)
theorem zAH.det (N : Nat) : ConDet (zAH.con N) := det1
def zB6.con (N : Nat) : Con := { modes := [.v], ptrs := [false], fn := fn1 s24 .imm (zB6 N) (fun r => [⟨.bool, .imm, r⟩]) (fun r => []) }
def zB6.cfg (N : Nat) : Cfg := { ty := tys, keep := [9], flt := [], elm := elm0, live := [], ord := [], con := [((19, [.one]), zAH.con N)], loops := [], joins := [] }
theorem zB6.cons (N : Nat) : ConsOk Tryz.prog (zB6.cfg N).con := (consOk_cons (hb19) (zAH.ok N) (zAH.det N) consOk_nil)
theorem zB6.ls (N : Nat) : LoopsOk Tryz.prog (zB6.cfg N) (fnBody Tryz.f5) := loopsL (l := []) (by kernel_rfl) trivial
theorem zB6.b (N : Nat) (x0 : den s24) : body (zB6.cfg N) N Tryz.f5 [.one] [.v] [(false, .imm)] [⟨s24, .imm, x0⟩] (fun r i => some (r, i)) = bindO (zB6 N x0) fun r => some ([⟨.bool, .imm, r⟩], []) := by
  show _ = bindF _ _
  conv => rhs; simp only [zB6, bindF_ifB, bindF_bindO, bindF_pure, bindF_none, bindF_onSum]
  kernel_rfl
theorem zB6.ok (N : Nat) : ConOk Tryz.prog 5 [.one] (zB6.con N) := ok1 (g := zB6.cfg N) (N := N) (res := [(false, .imm)]) tys_ok (zB6.cons N) mixed Tryz.func5 (zB6.ls N) rfl (zB6.b N)
theorem zB6.det (N : Nat) : ConDet (zB6.con N) := det1
def zAW.sk4 : Skel := ⟨.pv s26 :: (dd 4 (.pv (.int .i64) :: (dd 24 []))), []⟩
def zAW.xs4 : List XS := [⟨.exit 0, [], ⟨dd 30 [], []⟩⟩, ⟨.ret, [4], ⟨dd 4 (.pv .bool :: (dd 25 [])), []⟩⟩]
def zAW.con (N : Nat) : Con := { modes := [.v, .v], ptrs := [false], fn := fn2 s26 .imm (.int .i64) .imm (zAW N) (fun r => [⟨.bool, .imm, r⟩]) (fun r => []) }
def zAW.cfg (N : Nat) : Cfg := { ty := tys, keep := [27], flt := [], elm := elm0, live := [(4, [0, 5, 23, 24, 25, 26, 27, 28])], ord := [], con := [((19, [.one]), zAH.con N)], loops := [(4, loopCon N zAW.sk4 zAW.xs4 (fun {R} => zAW.l4 (R := R) N))], joins := [] }
theorem zAW.cons (N : Nat) : ConsOk Tryz.prog (zAW.cfg N).con := (consOk_cons (hb19) (zAH.ok N) (zAH.det N) consOk_nil)
theorem zAW.h4 {R : Type} (N : Nat) (d : zAW.sk4.D) (kn : zAW.sk4.D → Option R) (kx : XD zAW.xs4 → Option R) : roundK (zAW.cfg N) N (nthLoop (fnBody Tryz.f20) 0) zAW.sk4 zAW.xs4 d kn kx = zAW.l4 N d kn kx := by kernel_rfl
theorem zAW.i4 (N : Nat) : LoopsOk Tryz.prog (zAW.cfg N) (nthLoop (fnBody Tryz.f20) 0) := loopsL (l := []) (by kernel_rfl) trivial
theorem zAW.o4 (N : Nat) : LoopOk Tryz.prog (nthLoop (fnBody Tryz.f20) 0) (loopCon N zAW.sk4 zAW.xs4 (fun {R} => zAW.l4 (R := R) N)) := loop_ok (g := zAW.cfg N) tys_ok (zAW.cons N) mixed (zAW.i4 N) (fun d kn kx => zAW.h4 N d kn kx)
theorem zAW.ls (N : Nat) : LoopsOk Tryz.prog (zAW.cfg N) (fnBody Tryz.f20) := loopsL (l := [nthLoop (fnBody Tryz.f20) 0]) (by kernel_rfl) ⟨loopOne (L0 := loopCon N zAW.sk4 zAW.xs4 (fun {R} => zAW.l4 (R := R) N)) (id := 4) (by kernel_rfl) (by kernel_rfl) (zAW.o4 N), trivial⟩
theorem zAW.q4 {R R' : Type} {N n : Nat} {d} {k} {g : R → Option R'} : bindF (loopP (zAW.l4 N) n d k) g = loopP (zAW.l4 N) n d fun e => bindF (k e) g := bindF_loopP (fun d kn kx => by simp only [zAW.l4, bindF_ifB, bindF_bindO, bindF_pure, bindF_none, bindF_onSum]) n d k
theorem zAW.b (N : Nat) (x0 : den s26) (x1 : den (.int .i64)) : body (zAW.cfg N) N Tryz.f20 [.one, .one] [.v, .v] [(false, .imm)] [⟨s26, .imm, x0⟩, ⟨(.int .i64), .imm, x1⟩] (fun r i => some (r, i)) = bindO (zAW N x0 x1) fun r => some ([⟨.bool, .imm, r⟩], []) := by
  show _ = bindF _ _
  conv => rhs; simp only [zAW, bindF_ifB, bindF_bindO, bindF_pure, bindF_none, bindF_onSum, zAW.q4]
  kernel_rfl
theorem zAW.ok (N : Nat) : ConOk Tryz.prog 20 [.one, .one] (zAW.con N) := ok2 (g := zAW.cfg N) (N := N) (res := [(false, .imm)]) tys_ok (zAW.cons N) mixed Tryz.func20 (zAW.ls N) rfl (zAW.b N)
theorem zAW.det (N : Nat) : ConDet (zAW.con N) := det2
def zB7.con (N : Nat) : Con := { modes := [.v], ptrs := [false], fn := fn1 s27 .imm (zB7 N) (fun r => [⟨.bool, .imm, r⟩]) (fun r => []) }
def zB7.cfg (N : Nat) : Cfg := { ty := tys, keep := [5], flt := [], elm := elm0, live := [], ord := [], con := [((20, [.one, .one]), zAW.con N)], loops := [], joins := [] }
theorem zB7.cons (N : Nat) : ConsOk Tryz.prog (zB7.cfg N).con := (consOk_cons (hb20) (zAW.ok N) (zAW.det N) consOk_nil)
theorem zB7.ls (N : Nat) : LoopsOk Tryz.prog (zB7.cfg N) (fnBody Tryz.f6) := loopsL (l := []) (by kernel_rfl) trivial
theorem zB7.b (N : Nat) (x0 : den s27) : body (zB7.cfg N) N Tryz.f6 [.one] [.v] [(false, .imm)] [⟨s27, .imm, x0⟩] (fun r i => some (r, i)) = bindO (zB7 N x0) fun r => some ([⟨.bool, .imm, r⟩], []) := by
  show _ = bindF _ _
  conv => rhs; simp only [zB7, bindF_ifB, bindF_bindO, bindF_pure, bindF_none, bindF_onSum]
  kernel_rfl
theorem zB7.ok (N : Nat) : ConOk Tryz.prog 6 [.one] (zB7.con N) := ok1 (g := zB7.cfg N) (N := N) (res := [(false, .imm)]) tys_ok (zB7.cons N) mixed Tryz.func6 (zB7.ls N) rfl (zB7.b N)
theorem zB7.det (N : Nat) : ConDet (zB7.con N) := det1
def zCS.con (N : Nat) : Con := { modes := [.v, .v, .v], ptrs := [false], fn := fn3 s22 .imm (.int .i64) .imm (.int .i64) .imm (zCS N) (fun r => [⟨(.int .i64), .imm, r⟩]) (fun r => []) }
def zCS.cfg (N : Nat) : Cfg := { ty := tys, keep := [], flt := [], elm := elm0, live := [], ord := [], con := [], loops := [], joins := [] }
theorem zCS.cons (N : Nat) : ConsOk Tryz.prog (zCS.cfg N).con := consOk_nil
theorem zCS.ls (N : Nat) : LoopsOk Tryz.prog (zCS.cfg N) (fnBody Tryz.f7) := loopsL (l := []) (by kernel_rfl) trivial
theorem zCS.b (N : Nat) (x0 : den s22) (x1 : den (.int .i64)) (x2 : den (.int .i64)) : body (zCS.cfg N) N Tryz.f7 [.one, .one, .one] [.v, .v, .v] [(false, .imm)] [⟨s22, .imm, x0⟩, ⟨(.int .i64), .imm, x1⟩, ⟨(.int .i64), .imm, x2⟩] (fun r i => some (r, i)) = bindO (zCS N x0 x1 x2) fun r => some ([⟨(.int .i64), .imm, r⟩], []) := by
  show _ = bindF _ _
  conv => rhs; simp only [zCS, bindF_ifB, bindF_bindO, bindF_pure, bindF_none, bindF_onSum]
  kernel_rfl
theorem zCS.ok (N : Nat) : ConOk Tryz.prog 7 [.one, .one, .one] (zCS.con N) := ok3 (g := zCS.cfg N) (N := N) (res := [(false, .imm)]) tys_ok (zCS.cons N) mixed Tryz.func7 (zCS.ls N) rfl (zCS.b N)
theorem zCS.det (N : Nat) : ConDet (zCS.con N) := det3
def zC1.con (N : Nat) : Con := { modes := [.v], ptrs := [false], fn := fn1 .str .imm (zC1 N) (fun r => [⟨.bool, .imm, r⟩]) (fun r => []) }
def zC1.cfg (N : Nat) : Cfg := { ty := tys, keep := [], flt := [], elm := elm0, live := [], ord := [], con := [], loops := [], joins := [] }
theorem zC1.cons (N : Nat) : ConsOk Tryz.prog (zC1.cfg N).con := consOk_nil
theorem zC1.ls (N : Nat) : LoopsOk Tryz.prog (zC1.cfg N) (fnBody Tryz.f34) := loopsL (l := []) (by kernel_rfl) trivial
theorem zC1.b (N : Nat) (x0 : den .str) : body (zC1.cfg N) N Tryz.f34 [.one] [.v] [(false, .imm)] [⟨.str, .imm, x0⟩] (fun r i => some (r, i)) = bindO (zC1 N x0) fun r => some ([⟨.bool, .imm, r⟩], []) := by
  show _ = bindF _ _
  conv => rhs; simp only [zC1, bindF_ifB, bindF_bindO, bindF_pure, bindF_none, bindF_onSum]
  kernel_rfl
theorem zC1.ok (N : Nat) : ConOk Tryz.prog 34 [.one] (zC1.con N) := ok1 (g := zC1.cfg N) (N := N) (res := [(false, .imm)]) tys_ok (zC1.cons N) mixed Tryz.func34 (zC1.ls N) rfl (zC1.b N)
theorem zC1.det (N : Nat) : ConDet (zC1.con N) := det1
def zA2.sk2 : Skel := ⟨.pv (.sl 9 .str) :: (.fn 34 [] :: (dd 5 (.pv (.int .i64) :: (.pv (.int .i64) :: (dd 10 []))))), []⟩
def zA2.xs2 : List XS := [⟨.exit 0, [], ⟨dd 19 [], []⟩⟩, ⟨.ret, [4], ⟨dd 4 (.pv (.int .i64) :: (dd 14 [])), []⟩⟩]
def zA2.con (N : Nat) : Con := { modes := [.v], ptrs := [false], fn := fn1 (.sl 9 .str) .imm (zA2 N) (fun r => [⟨(.int .i64), .imm, r⟩]) (fun r => []) }
def zA2.cfg (N : Nat) : Cfg := { ty := tys, keep := [16], flt := [], elm := elm0, live := [(2, [0, 1, 7, 8])], ord := [], con := [((34, [.one]), zC1.con N)], loops := [(2, loopCon N zA2.sk2 zA2.xs2 (fun {R} => zA2.l2 (R := R) N))], joins := [] }
theorem zA2.cons (N : Nat) : ConsOk Tryz.prog (zA2.cfg N).con := (consOk_cons (hb34) (zC1.ok N) (zC1.det N) consOk_nil)
theorem zA2.h2 {R : Type} (N : Nat) (d : zA2.sk2.D) (kn : zA2.sk2.D → Option R) (kx : XD zA2.xs2 → Option R) : roundK (zA2.cfg N) N (nthLoop (fnBody Tryz.f63) 0) zA2.sk2 zA2.xs2 d kn kx = zA2.l2 N d kn kx := by kernel_rfl
theorem zA2.i2 (N : Nat) : LoopsOk Tryz.prog (zA2.cfg N) (nthLoop (fnBody Tryz.f63) 0) := loopsL (l := []) (by kernel_rfl) trivial
theorem zA2.o2 (N : Nat) : LoopOk Tryz.prog (nthLoop (fnBody Tryz.f63) 0) (loopCon N zA2.sk2 zA2.xs2 (fun {R} => zA2.l2 (R := R) N)) := loop_ok (g := zA2.cfg N) tys_ok (zA2.cons N) mixed (zA2.i2 N) (fun d kn kx => zA2.h2 N d kn kx)
theorem zA2.ls (N : Nat) : LoopsOk Tryz.prog (zA2.cfg N) (fnBody Tryz.f63) := loopsL (l := [nthLoop (fnBody Tryz.f63) 0]) (by kernel_rfl) ⟨loopOne (L0 := loopCon N zA2.sk2 zA2.xs2 (fun {R} => zA2.l2 (R := R) N)) (id := 2) (by kernel_rfl) (by kernel_rfl) (zA2.o2 N), trivial⟩
theorem zA2.q2 {R R' : Type} {N n : Nat} {d} {k} {g : R → Option R'} : bindF (loopP (zA2.l2 N) n d k) g = loopP (zA2.l2 N) n d fun e => bindF (k e) g := bindF_loopP (fun d kn kx => by simp only [zA2.l2, bindF_ifB, bindF_bindO, bindF_pure, bindF_none, bindF_onSum]) n d k
theorem zA2.b (N : Nat) (x0 : den (.sl 9 .str)) : body (zA2.cfg N) N Tryz.f63 [.one, .fn 34 0] [.v] [(false, .imm)] [⟨(.sl 9 .str), .imm, x0⟩] (fun r i => some (r, i)) = bindO (zA2 N x0) fun r => some ([⟨(.int .i64), .imm, r⟩], []) := by
  show _ = bindF _ _
  conv => rhs; simp only [zA2, bindF_ifB, bindF_bindO, bindF_pure, bindF_none, bindF_onSum, zA2.q2]
  kernel_rfl
theorem zA2.ok (N : Nat) : ConOk Tryz.prog 63 [.one, .fn 34 0] (zA2.con N) := ok1 (g := zA2.cfg N) (N := N) (res := [(false, .imm)]) tys_ok (zA2.cons N) mixed Tryz.func63 (zA2.ls N) rfl (zA2.b N)
theorem zA2.det (N : Nat) : ConDet (zA2.con N) := det1
def zAC.con (N : Nat) : Con := { modes := [.v], ptrs := [false], fn := fn1 (.sl 9 .str) .imm (zAC N) (fun r => [⟨.bool, .imm, r⟩]) (fun r => []) }
def zAC.cfg (N : Nat) : Cfg := { ty := tys, keep := [7], flt := [], elm := elm0, live := [], ord := [], con := [((63, [.one, .fn 34 0]), zA2.con N)], loops := [], joins := [] }
theorem zAC.cons (N : Nat) : ConsOk Tryz.prog (zAC.cfg N).con := (consOk_cons (hb63) (zA2.ok N) (zA2.det N) consOk_nil)
theorem zAC.ls (N : Nat) : LoopsOk Tryz.prog (zAC.cfg N) (fnBody Tryz.f33) := loopsL (l := []) (by kernel_rfl) trivial
theorem zAC.b (N : Nat) (x0 : den (.sl 9 .str)) : body (zAC.cfg N) N Tryz.f33 [.one, .fn 34 0] [.v] [(false, .imm)] [⟨(.sl 9 .str), .imm, x0⟩] (fun r i => some (r, i)) = bindO (zAC N x0) fun r => some ([⟨.bool, .imm, r⟩], []) := by
  show _ = bindF _ _
  conv => rhs; simp only [zAC, bindF_ifB, bindF_bindO, bindF_pure, bindF_none, bindF_onSum]
  kernel_rfl
theorem zAC.ok (N : Nat) : ConOk Tryz.prog 33 [.one, .fn 34 0] (zAC.con N) := ok1 (g := zAC.cfg N) (N := N) (res := [(false, .imm)]) tys_ok (zAC.cons N) mixed Tryz.func33 (zAC.ls N) rfl (zAC.b N)
theorem zAC.det (N : Nat) : ConDet (zAC.con N) := det1
def zCO.con (N : Nat) : Con := { modes := [.v], ptrs := [false], fn := fn1 (.sl 9 .str) .imm (zCO N) (fun r => [⟨.bool, .imm, r⟩]) (fun r => []) }
def zCO.cfg (N : Nat) : Cfg := { ty := tys, keep := [4], flt := [], elm := elm0, live := [], ord := [], con := [((33, [.one, .fn 34 0]), zAC.con N)], loops := [], joins := [] }
theorem zCO.cons (N : Nat) : ConsOk Tryz.prog (zCO.cfg N).con := (consOk_cons (hb33) (zAC.ok N) (zAC.det N) consOk_nil)
theorem zCO.ls (N : Nat) : LoopsOk Tryz.prog (zCO.cfg N) (fnBody Tryz.f21) := loopsL (l := []) (by kernel_rfl) trivial
theorem zCO.b (N : Nat) (x0 : den (.sl 9 .str)) : body (zCO.cfg N) N Tryz.f21 [.one] [.v] [(false, .imm)] [⟨(.sl 9 .str), .imm, x0⟩] (fun r i => some (r, i)) = bindO (zCO N x0) fun r => some ([⟨.bool, .imm, r⟩], []) := by
  show _ = bindF _ _
  conv => rhs; simp only [zCO, bindF_ifB, bindF_bindO, bindF_pure, bindF_none, bindF_onSum]
  kernel_rfl
theorem zCO.ok (N : Nat) : ConOk Tryz.prog 21 [.one] (zCO.con N) := ok1 (g := zCO.cfg N) (N := N) (res := [(false, .imm)]) tys_ok (zCO.cons N) mixed Tryz.func21 (zCO.ls N) rfl (zCO.b N)
theorem zCO.det (N : Nat) : ConDet (zCO.con N) := det1
def zBH.con (N : Nat) : Con := { modes := [.v, .v, .v], ptrs := [false], fn := fn3 (.int .i64) .imm (.int .i64) .imm (.int .i64) .imm (zBH N) (fun r => [⟨.bool, .imm, r⟩]) (fun r => []) }
def zBH.cfg (N : Nat) : Cfg := { ty := tys, keep := [], flt := [], elm := elm0, live := [], ord := [], con := [], loops := [], joins := [] }
theorem zBH.cons (N : Nat) : ConsOk Tryz.prog (zBH.cfg N).con := consOk_nil
theorem zBH.ls (N : Nat) : LoopsOk Tryz.prog (zBH.cfg N) (fnBody Tryz.f38) := loopsL (l := []) (by kernel_rfl) trivial
theorem zBH.b (N : Nat) (x0 : den (.int .i64)) (x1 : den (.int .i64)) (x2 : den (.int .i64)) : body (zBH.cfg N) N Tryz.f38 [.one, .one, .one] [.v, .v, .v] [(false, .imm)] [⟨(.int .i64), .imm, x0⟩, ⟨(.int .i64), .imm, x1⟩, ⟨(.int .i64), .imm, x2⟩] (fun r i => some (r, i)) = bindO (zBH N x0 x1 x2) fun r => some ([⟨.bool, .imm, r⟩], []) := by
  show _ = bindF _ _
  conv => rhs; simp only [zBH, bindF_ifB, bindF_bindO, bindF_pure, bindF_none, bindF_onSum]
  kernel_rfl
theorem zBH.ok (N : Nat) : ConOk Tryz.prog 38 [.one, .one, .one] (zBH.con N) := ok3 (g := zBH.cfg N) (N := N) (res := [(false, .imm)]) tys_ok (zBH.cons N) mixed Tryz.func38 (zBH.ls N) rfl (zBH.b N)
theorem zBH.det (N : Nat) : ConDet (zBH.con N) := det3
def zC5.con (N : Nat) : Con := { modes := [.v], ptrs := [false], fn := fn1 (.int .i64) .imm (zC5 N) (fun r => [⟨.bool, .imm, r⟩]) (fun r => []) }
def zC5.cfg (N : Nat) : Cfg := { ty := tys, keep := [4, 7], flt := [], elm := elm0, live := [], ord := [], con := [((38, [.one, .one, .one]), zBH.con N)], loops := [], joins := [] }
theorem zC5.cons (N : Nat) : ConsOk Tryz.prog (zC5.cfg N).con := (consOk_cons (hb38) (zBH.ok N) (zBH.det N) consOk_nil)
theorem zC5.ls (N : Nat) : LoopsOk Tryz.prog (zC5.cfg N) (fnBody Tryz.f66) := loopsL (l := []) (by kernel_rfl) trivial
theorem zC5.b (N : Nat) (x0 : den (.int .i64)) : body (zC5.cfg N) N Tryz.f66 [.one] [.v] [(false, .imm)] [⟨(.int .i64), .imm, x0⟩] (fun r i => some (r, i)) = bindO (zC5 N x0) fun r => some ([⟨.bool, .imm, r⟩], []) := by
  show _ = bindF _ _
  conv => rhs; simp only [zC5, bindF_ifB, bindF_bindO, bindF_pure, bindF_none, bindF_onSum]
  kernel_rfl
theorem zC5.ok (N : Nat) : ConOk Tryz.prog 66 [.one] (zC5.con N) := ok1 (g := zC5.cfg N) (N := N) (res := [(false, .imm)]) tys_ok (zC5.cons N) mixed Tryz.func66 (zC5.ls N) rfl (zC5.b N)
theorem zC5.det (N : Nat) : ConDet (zC5.con N) := det1
def zBB.con (N : Nat) : Con := { modes := [.v], ptrs := [false], fn := fn1 (.int .i64) .imm (zBB N) (fun r => [⟨.bool, .imm, r⟩]) (fun r => []) }
def zBB.cfg (N : Nat) : Cfg := { ty := tys, keep := [4], flt := [], elm := elm0, live := [], ord := [], con := [((66, [.one]), zC5.con N)], loops := [], joins := [] }
theorem zBB.cons (N : Nat) : ConsOk Tryz.prog (zBB.cfg N).con := (consOk_cons (hb66) (zC5.ok N) (zC5.det N) consOk_nil)
theorem zBB.ls (N : Nat) : LoopsOk Tryz.prog (zBB.cfg N) (fnBody Tryz.f65) := loopsL (l := []) (by kernel_rfl) trivial
theorem zBB.b (N : Nat) (x0 : den (.int .i64)) : body (zBB.cfg N) N Tryz.f65 [.one] [.v] [(false, .imm)] [⟨(.int .i64), .imm, x0⟩] (fun r i => some (r, i)) = bindO (zBB N x0) fun r => some ([⟨.bool, .imm, r⟩], []) := by
  show _ = bindF _ _
  conv => rhs; simp only [zBB, bindF_ifB, bindF_bindO, bindF_pure, bindF_none, bindF_onSum]
  kernel_rfl
theorem zBB.ok (N : Nat) : ConOk Tryz.prog 65 [.one] (zBB.con N) := ok1 (g := zBB.cfg N) (N := N) (res := [(false, .imm)]) tys_ok (zBB.cons N) mixed Tryz.func65 (zBB.ls N) rfl (zBB.b N)
theorem zBB.det (N : Nat) : ConDet (zBB.con N) := det1
end Go.AE.F
end
