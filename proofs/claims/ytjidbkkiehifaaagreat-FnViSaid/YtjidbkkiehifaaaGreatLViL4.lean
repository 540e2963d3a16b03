/- The printed functions are what the program comes to: contracts. -/
import Derived.Test.YtjidbkkiehifaaaGreatLViL3
noncomputable section
namespace Go.AE.F
open Go.AE Go.Proofs
set_option maxRecDepth 100000
def zAC.con (N : Nat) : Con := { modes := [.v], ptrs := [false], fn := fn1 (.sl 9 .str) .imm (zAC N) (fun r => [⟨.bool, .imm, r⟩]) (fun r => []) }
def zAC.cfg (N : Nat) : Cfg := { ty := tys, keep := [7], flt := [], elm := elm0, live := [], ord := [], con := [((75, [.one, .fn 43 0]), zA2.con N)], loops := [], joins := [] }
theorem zAC.cons (N : Nat) : ConsOk Tryz.prog (zAC.cfg N).con := (consOk_cons (hb75) (zA2.ok N) (zA2.det N) consOk_nil)
theorem zAC.ls (N : Nat) : LoopsOk Tryz.prog (zAC.cfg N) (fnBody Tryz.f42) := loopsL (l := []) (by kernel_rfl) trivial
theorem zAC.b (N : Nat) (x0 : den (.sl 9 .str)) : body (zAC.cfg N) N Tryz.f42 [.one, .fn 43 0] [.v] [(false, .imm)] [⟨(.sl 9 .str), .imm, x0⟩] (fun r i => some (r, i)) = bindO (zAC N x0) fun r => some ([⟨.bool, .imm, r⟩], []) := by
  show _ = bindF _ _
  conv => rhs; simp only [zAC, bindF_ifB, bindF_bindO, bindF_pure, bindF_none, bindF_onSum]
  kernel_rfl
theorem zAC.ok (N : Nat) : ConOk Tryz.prog 42 [.one, .fn 43 0] (zAC.con N) := ok1 (g := zAC.cfg N) (N := N) (res := [(false, .imm)]) tys_ok (zAC.cons N) mixed Tryz.func42 (zAC.ls N) rfl (zAC.b N)
theorem zAC.det (N : Nat) : ConDet (zAC.con N) := det1
def zCO.con (N : Nat) : Con := { modes := [.v], ptrs := [false], fn := fn1 (.sl 9 .str) .imm (zCO N) (fun r => [⟨.bool, .imm, r⟩]) (fun r => []) }
def zCO.cfg (N : Nat) : Cfg := { ty := tys, keep := [4], flt := [], elm := elm0, live := [], ord := [], con := [((42, [.one, .fn 43 0]), zAC.con N)], loops := [], joins := [] }
theorem zCO.cons (N : Nat) : ConsOk Tryz.prog (zCO.cfg N).con := (consOk_cons (hb42) (zAC.ok N) (zAC.det N) consOk_nil)
theorem zCO.ls (N : Nat) : LoopsOk Tryz.prog (zCO.cfg N) (fnBody Tryz.f20) := loopsL (l := []) (by kernel_rfl) trivial
theorem zCO.b (N : Nat) (x0 : den (.sl 9 .str)) : body (zCO.cfg N) N Tryz.f20 [.one] [.v] [(false, .imm)] [⟨(.sl 9 .str), .imm, x0⟩] (fun r i => some (r, i)) = bindO (zCO N x0) fun r => some ([⟨.bool, .imm, r⟩], []) := by
  show _ = bindF _ _
  conv => rhs; simp only [zCO, bindF_ifB, bindF_bindO, bindF_pure, bindF_none, bindF_onSum]
  kernel_rfl
theorem zCO.ok (N : Nat) : ConOk Tryz.prog 20 [.one] (zCO.con N) := ok1 (g := zCO.cfg N) (N := N) (res := [(false, .imm)]) tys_ok (zCO.cons N) mixed Tryz.func20 (zCO.ls N) rfl (zCO.b N)
theorem zCO.det (N : Nat) : ConDet (zCO.con N) := det1
def zBM.con (N : Nat) : Con := { modes := [.v, .v, .v], ptrs := [false], fn := fn3 (.int .i64) .imm (.int .i64) .imm (.int .i64) .imm (zBM N) (fun r => [⟨.bool, .imm, r⟩]) (fun r => []) }
def zBM.cfg (N : Nat) : Cfg := { ty := tys, keep := [], flt := [], elm := elm0, live := [], ord := [], con := [], loops := [], joins := [] }
theorem zBM.cons (N : Nat) : ConsOk Tryz.prog (zBM.cfg N).con := consOk_nil
theorem zBM.ls (N : Nat) : LoopsOk Tryz.prog (zBM.cfg N) (fnBody Tryz.f31) := loopsL (l := []) (by kernel_rfl) trivial
theorem zBM.b (N : Nat) (x0 : den (.int .i64)) (x1 : den (.int .i64)) (x2 : den (.int .i64)) : body (zBM.cfg N) N Tryz.f31 [.one, .one, .one] [.v, .v, .v] [(false, .imm)] [⟨(.int .i64), .imm, x0⟩, ⟨(.int .i64), .imm, x1⟩, ⟨(.int .i64), .imm, x2⟩] (fun r i => some (r, i)) = bindO (zBM N x0 x1 x2) fun r => some ([⟨.bool, .imm, r⟩], []) := by
  show _ = bindF _ _
  conv => rhs; simp only [zBM, bindF_ifB, bindF_bindO, bindF_pure, bindF_none, bindF_onSum]
  kernel_rfl
theorem zBM.ok (N : Nat) : ConOk Tryz.prog 31 [.one, .one, .one] (zBM.con N) := ok3 (g := zBM.cfg N) (N := N) (res := [(false, .imm)]) tys_ok (zBM.cons N) mixed Tryz.func31 (zBM.ls N) rfl (zBM.b N)
theorem zBM.det (N : Nat) : ConDet (zBM.con N) := det3
def zCC.con (N : Nat) : Con := { modes := [.v], ptrs := [false], fn := fn1 (.int .i64) .imm (zCC N) (fun r => [⟨.bool, .imm, r⟩]) (fun r => []) }
def zCC.cfg (N : Nat) : Cfg := { ty := tys, keep := [4, 7], flt := [], elm := elm0, live := [], ord := [], con := [((31, [.one, .one, .one]), zBM.con N)], loops := [], joins := [] }
theorem zCC.cons (N : Nat) : ConsOk Tryz.prog (zCC.cfg N).con := (consOk_cons (hb31) (zBM.ok N) (zBM.det N) consOk_nil)
theorem zCC.ls (N : Nat) : LoopsOk Tryz.prog (zCC.cfg N) (fnBody Tryz.f58) := loopsL (l := []) (by kernel_rfl) trivial
theorem zCC.b (N : Nat) (x0 : den (.int .i64)) : body (zCC.cfg N) N Tryz.f58 [.one] [.v] [(false, .imm)] [⟨(.int .i64), .imm, x0⟩] (fun r i => some (r, i)) = bindO (zCC N x0) fun r => some ([⟨.bool, .imm, r⟩], []) := by
  show _ = bindF _ _
  conv => rhs; simp only [zCC, bindF_ifB, bindF_bindO, bindF_pure, bindF_none, bindF_onSum]
  kernel_rfl
theorem zCC.ok (N : Nat) : ConOk Tryz.prog 58 [.one] (zCC.con N) := ok1 (g := zCC.cfg N) (N := N) (res := [(false, .imm)]) tys_ok (zCC.cons N) mixed Tryz.func58 (zCC.ls N) rfl (zCC.b N)
theorem zCC.det (N : Nat) : ConDet (zCC.con N) := det1
def zBG.con (N : Nat) : Con := { modes := [.v], ptrs := [false], fn := fn1 (.int .i64) .imm (zBG N) (fun r => [⟨.bool, .imm, r⟩]) (fun r => []) }
def zBG.cfg (N : Nat) : Cfg := { ty := tys, keep := [4], flt := [], elm := elm0, live := [], ord := [], con := [((58, [.one]), zCC.con N)], loops := [], joins := [] }
theorem zBG.cons (N : Nat) : ConsOk Tryz.prog (zBG.cfg N).con := (consOk_cons (hb58) (zCC.ok N) (zCC.det N) consOk_nil)
theorem zBG.ls (N : Nat) : LoopsOk Tryz.prog (zBG.cfg N) (fnBody Tryz.f57) := loopsL (l := []) (by kernel_rfl) trivial
theorem zBG.b (N : Nat) (x0 : den (.int .i64)) : body (zBG.cfg N) N Tryz.f57 [.one] [.v] [(false, .imm)] [⟨(.int .i64), .imm, x0⟩] (fun r i => some (r, i)) = bindO (zBG N x0) fun r => some ([⟨.bool, .imm, r⟩], []) := by
  show _ = bindF _ _
  conv => rhs; simp only [zBG, bindF_ifB, bindF_bindO, bindF_pure, bindF_none, bindF_onSum]
  kernel_rfl
theorem zBG.ok (N : Nat) : ConOk Tryz.prog 57 [.one] (zBG.con N) := ok1 (g := zBG.cfg N) (N := N) (res := [(false, .imm)]) tys_ok (zBG.cons N) mixed Tryz.func57 (zBG.ls N) rfl (zBG.b N)
theorem zBG.det (N : Nat) : ConDet (zBG.con N) := det1
def zA1.sk2 : Skel := ⟨.pv s23 :: (.fn 57 [] :: (dd 5 (.pv (.int .i64) :: (.pv (.int .i64) :: (dd 10 []))))), []⟩
def zA1.xs2 : List XS := [⟨.exit 0, [], ⟨dd 19 [], []⟩⟩, ⟨.ret, [4], ⟨dd 4 (.pv (.int .i64) :: (dd 14 [])), []⟩⟩]
def zA1.con (N : Nat) : Con := { modes := [.v], ptrs := [false], fn := fn1 s23 .imm (zA1 N) (fun r => [⟨(.int .i64), .imm, r⟩]) (fun r => []) }
def zA1.cfg (N : Nat) : Cfg := { ty := tys, keep := [16], flt := [], elm := elm0, live := [(2, [0, 1, 7, 8])], ord := [], con := [((57, [.one]), zBG.con N)], loops := [(2, loopCon N zA1.sk2 zA1.xs2 (fun {R} => zA1.l2 (R := R) N))], joins := [] }
theorem zA1.cons (N : Nat) : ConsOk Tryz.prog (zA1.cfg N).con := (consOk_cons (hb57) (zBG.ok N) (zBG.det N) consOk_nil)
theorem zA1.h2 {R : Type} (N : Nat) (d : zA1.sk2.D) (kn : zA1.sk2.D → Option R) (kx : XD zA1.xs2 → Option R) : roundK (zA1.cfg N) N (nthLoop (fnBody Tryz.f81) 0) zA1.sk2 zA1.xs2 d kn kx = zA1.l2 N d kn kx := by kernel_rfl
theorem zA1.i2 (N : Nat) : LoopsOk Tryz.prog (zA1.cfg N) (nthLoop (fnBody Tryz.f81) 0) := loopsL (l := []) (by kernel_rfl) trivial
theorem zA1.o2 (N : Nat) : LoopOk Tryz.prog (nthLoop (fnBody Tryz.f81) 0) (loopCon N zA1.sk2 zA1.xs2 (fun {R} => zA1.l2 (R := R) N)) := loop_ok (g := zA1.cfg N) tys_ok (zA1.cons N) mixed (zA1.i2 N) (fun d kn kx => zA1.h2 N d kn kx)
theorem zA1.ls (N : Nat) : LoopsOk Tryz.prog (zA1.cfg N) (fnBody Tryz.f81) := loopsL (l := [nthLoop (fnBody Tryz.f81) 0]) (by kernel_rfl) ⟨loopOne (L0 := loopCon N zA1.sk2 zA1.xs2 (fun {R} => zA1.l2 (R := R) N)) (id := 2) (by kernel_rfl) (by kernel_rfl) (zA1.o2 N), trivial⟩
theorem zA1.q2 {R R' : Type} {N n : Nat} {d} {k} {g : R → Option R'} : bindF (loopP (zA1.l2 N) n d k) g = loopP (zA1.l2 N) n d fun e => bindF (k e) g := bindF_loopP (fun d kn kx => by simp only [zA1.l2, bindF_ifB, bindF_bindO, bindF_pure, bindF_none, bindF_onSum]) n d k
theorem zA1.b (N : Nat) (x0 : den s23) : body (zA1.cfg N) N Tryz.f81 [.one, .fn 57 0] [.v] [(false, .imm)] [⟨s23, .imm, x0⟩] (fun r i => some (r, i)) = bindO (zA1 N x0) fun r => some ([⟨(.int .i64), .imm, r⟩], []) := by
  show _ = bindF _ _
  conv => rhs; simp only [zA1, bindF_ifB, bindF_bindO, bindF_pure, bindF_none, bindF_onSum, zA1.q2]
  kernel_rfl
theorem zA1.ok (N : Nat) : ConOk Tryz.prog 81 [.one, .fn 57 0] (zA1.con N) := ok1 (g := zA1.cfg N) (N := N) (res := [(false, .imm)]) tys_ok (zA1.cons N) mixed Tryz.func81 (zA1.ls N) rfl (zA1.b N)
theorem zA1.det (N : Nat) : ConDet (zA1.con N) := det1
def zA9.con (N : Nat) : Con := { modes := [.v], ptrs := [false], fn := fn1 s23 .imm (zA9 N) (fun r => [⟨.bool, .imm, r⟩]) (fun r => []) }
def zA9.cfg (N : Nat) : Cfg := { ty := tys, keep := [7], flt := [], elm := elm0, live := [], ord := [], con := [((81, [.one, .fn 57 0]), zA1.con N)], loops := [], joins := [] }
theorem zA9.cons (N : Nat) : ConsOk Tryz.prog (zA9.cfg N).con := (consOk_cons (hb81) (zA1.ok N) (zA1.det N) consOk_nil)
theorem zA9.ls (N : Nat) : LoopsOk Tryz.prog (zA9.cfg N) (fnBody Tryz.f56) := loopsL (l := []) (by kernel_rfl) trivial
theorem zA9.b (N : Nat) (x0 : den s23) : body (zA9.cfg N) N Tryz.f56 [.one, .fn 57 0] [.v] [(false, .imm)] [⟨s23, .imm, x0⟩] (fun r i => some (r, i)) = bindO (zA9 N x0) fun r => some ([⟨.bool, .imm, r⟩], []) := by
  show _ = bindF _ _
  conv => rhs; simp only [zA9, bindF_ifB, bindF_bindO, bindF_pure, bindF_none, bindF_onSum]
  kernel_rfl
theorem zA9.ok (N : Nat) : ConOk Tryz.prog 56 [.one, .fn 57 0] (zA9.con N) := ok1 (g := zA9.cfg N) (N := N) (res := [(false, .imm)]) tys_ok (zA9.cons N) mixed Tryz.func56 (zA9.ls N) rfl (zA9.b N)
theorem zA9.det (N : Nat) : ConDet (zA9.con N) := det1
def zBJ.con (N : Nat) : Con := { modes := [.v], ptrs := [false], fn := fn1 s23 .imm (zBJ N) (fun r => [⟨.bool, .imm, r⟩]) (fun r => []) }
def zBJ.cfg (N : Nat) : Cfg := { ty := tys, keep := [8], flt := [], elm := elm0, live := [], ord := [], con := [((56, [.one, .fn 57 0]), zA9.con N)], loops := [], joins := [] }
theorem zBJ.cons (N : Nat) : ConsOk Tryz.prog (zBJ.cfg N).con := (consOk_cons (hb56) (zA9.ok N) (zA9.det N) consOk_nil)
theorem zBJ.ls (N : Nat) : LoopsOk Tryz.prog (zBJ.cfg N) (fnBody Tryz.f28) := loopsL (l := []) (by kernel_rfl) trivial
theorem zBJ.b (N : Nat) (x0 : den s23) : body (zBJ.cfg N) N Tryz.f28 [.one] [.v] [(false, .imm)] [⟨s23, .imm, x0⟩] (fun r i => some (r, i)) = bindO (zBJ N x0) fun r => some ([⟨.bool, .imm, r⟩], []) := by
  show _ = bindF _ _
  conv => rhs; simp only [zBJ, bindF_ifB, bindF_bindO, bindF_pure, bindF_none, bindF_onSum]
  kernel_rfl
theorem zBJ.ok (N : Nat) : ConOk Tryz.prog 28 [.one] (zBJ.con N) := ok1 (g := zBJ.cfg N) (N := N) (res := [(false, .imm)]) tys_ok (zBJ.cons N) mixed Tryz.func28 (zBJ.ls N) rfl (zBJ.b N)
theorem zBJ.det (N : Nat) : ConDet (zBJ.con N) := det1
def zAN.con (N : Nat) : Con := { modes := [.v], ptrs := [false], fn := fn1 s23 .imm (zAN N) (fun r => [⟨(.int .i64), .imm, r⟩]) (fun r => []) }
def zAN.cfg (N : Nat) : Cfg := { ty := tys, keep := [], flt := [], elm := elm0, live := [], ord := [], con := [], loops := [], joins := [] }
theorem zAN.cons (N : Nat) : ConsOk Tryz.prog (zAN.cfg N).con := consOk_nil
theorem zAN.ls (N : Nat) : LoopsOk Tryz.prog (zAN.cfg N) (fnBody Tryz.f53) := loopsL (l := []) (by kernel_rfl) trivial
theorem zAN.b (N : Nat) (x0 : den s23) : body (zAN.cfg N) N Tryz.f53 [.one] [.v] [(false, .imm)] [⟨s23, .imm, x0⟩] (fun r i => some (r, i)) = bindO (zAN N x0) fun r => some ([⟨(.int .i64), .imm, r⟩], []) := by
  show _ = bindF _ _
  conv => rhs; simp only [zAN, bindF_ifB, bindF_bindO, bindF_pure, bindF_none, bindF_onSum]
  kernel_rfl
theorem zAN.ok (N : Nat) : ConOk Tryz.prog 53 [.one] (zAN.con N) := ok1 (g := zAN.cfg N) (N := N) (res := [(false, .imm)]) tys_ok (zAN.cons N) mixed Tryz.func53 (zAN.ls N) rfl (zAN.b N)
theorem zAN.det (N : Nat) : ConDet (zAN.con N) := det1
def zBW.con (N : Nat) : Con := { modes := [.rd, .v], ptrs := [false], fn := fn2 s24 .imm (.int .i64) .imm (zBW N) (fun r => [⟨.bool, .imm, r⟩]) (fun r => []) }
def zBW.cfg (N : Nat) : Cfg := { ty := tys, keep := [10, 11], flt := [], elm := elm0, live := [], ord := [], con := [((53, [.one]), zAN.con N), ((31, [.one, .one, .one]), zBM.con N)], loops := [], joins := [] }
theorem zBW.cons (N : Nat) : ConsOk Tryz.prog (zBW.cfg N).con := (consOk_cons (hb53) (zAN.ok N) (zAN.det N) (consOk_cons (hb31) (zBM.ok N) (zBM.det N) consOk_nil))
theorem zBW.ls (N : Nat) : LoopsOk Tryz.prog (zBW.cfg N) (fnBody Tryz.f29) := loopsL (l := []) (by kernel_rfl) trivial
theorem zBW.b (N : Nat) (x0 : den s24) (x1 : den (.int .i64)) : body (zBW.cfg N) N Tryz.f29 [.one, .one] [.rd, .v] [(false, .imm)] [⟨s24, .imm, x0⟩, ⟨(.int .i64), .imm, x1⟩] (fun r i => some (r, i)) = bindO (zBW N x0 x1) fun r => some ([⟨.bool, .imm, r⟩], []) := by
  show _ = bindF _ _
  conv => rhs; simp only [zBW, bindF_ifB, bindF_bindO, bindF_pure, bindF_none, bindF_onSum]
  kernel_rfl
theorem zBW.ok (N : Nat) : ConOk Tryz.prog 29 [.one, .one] (zBW.con N) := ok2 (g := zBW.cfg N) (N := N) (res := [(false, .imm)]) tys_ok (zBW.cons N) mixed Tryz.func29 (zBW.ls N) rfl (zBW.b N)
theorem zBW.det (N : Nat) : ConDet (zBW.con N) := det2
def zBD.con (N : Nat) : Con := { modes := [.v], ptrs := [false], fn := fn1 s24 .imm (zBD N) (fun r => [⟨.bool, .imm, r⟩]) (fun r => []) }
def zBD.cfg (N : Nat) : Cfg := { ty := tys, keep := [5, 9, 14], flt := [], elm := elm0, live := [], ord := [], con := [((28, [.one]), zBJ.con N), ((29, [.one, .one]), zBW.con N)], loops := [], joins := [] }
theorem zBD.cons (N : Nat) : ConsOk Tryz.prog (zBD.cfg N).con := (consOk_cons (hb28) (zBJ.ok N) (zBJ.det N) (consOk_cons (hb29) (zBW.ok N) (zBW.det N) consOk_nil))
theorem zBD.ls (N : Nat) : LoopsOk Tryz.prog (zBD.cfg N) (fnBody Tryz.f10) := loopsL (l := []) (by kernel_rfl) trivial
theorem zBD.b (N : Nat) (x0 : den s24) : body (zBD.cfg N) N Tryz.f10 [.one] [.v] [(false, .imm)] [⟨s24, .imm, x0⟩] (fun r i => some (r, i)) = bindO (zBD N x0) fun r => some ([⟨.bool, .imm, r⟩], []) := by
  show _ = bindF _ _
  conv => rhs; simp only [zBD, bindF_ifB, bindF_bindO, bindF_pure, bindF_none, bindF_onSum]
  kernel_rfl
theorem zBD.ok (N : Nat) : ConOk Tryz.prog 10 [.one] (zBD.con N) := ok1 (g := zBD.cfg N) (N := N) (res := [(false, .imm)]) tys_ok (zBD.cons N) mixed Tryz.func10 (zBD.ls N) rfl (zBD.b N)
theorem zBD.det (N : Nat) : ConDet (zBD.con N) := det1
def zCT.con (N : Nat) : Con := { modes := [.v], ptrs := [false], fn := fn1 s23 .imm (zCT N) (fun r => [⟨.bool, .imm, r⟩]) (fun r => []) }
def zCT.cfg (N : Nat) : Cfg := { ty := tys, keep := [8], flt := [], elm := elm0, live := [], ord := [], con := [((28, [.one]), zBJ.con N)], loops := [], joins := [] }
theorem zCT.cons (N : Nat) : ConsOk Tryz.prog (zCT.cfg N).con := (consOk_cons (hb28) (zBJ.ok N) (zBJ.det N) consOk_nil)
theorem zCT.ls (N : Nat) : LoopsOk Tryz.prog (zCT.cfg N) (fnBody Tryz.f61) := loopsL (l := []) (by kernel_rfl) trivial
theorem zCT.b (N : Nat) (x0 : den s23) : body (zCT.cfg N) N Tryz.f61 [.one] [.v] [(false, .imm)] [⟨s23, .imm, x0⟩] (fun r i => some (r, i)) = bindO (zCT N x0) fun r => some ([⟨.bool, .imm, r⟩], []) := by
  show _ = bindF _ _
  conv => rhs; simp only [zCT, bindF_ifB, bindF_bindO, bindF_pure, bindF_none, bindF_onSum]
  kernel_rfl
theorem zCT.ok (N : Nat) : ConOk Tryz.prog 61 [.one] (zCT.con N) := ok1 (g := zCT.cfg N) (N := N) (res := [(false, .imm)]) tys_ok (zCT.cons N) mixed Tryz.func61 (zCT.ls N) rfl (zCT.b N)
theorem zCT.det (N : Nat) : ConDet (zCT.con N) := det1
end Go.AE.F
end
