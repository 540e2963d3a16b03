/- The printed functions are what the program comes to: contracts. -/
import Derived.Test.YtcgbobehdjgjpaaGreatLViBackL1
noncomputable section
namespace Go.AE.F
open Go.AE Go.Proofs
set_option maxRecDepth 100000
def zA1.sk2 : Skel := ⟨.pv s23 :: (.fn 65 [] :: (dd 5 (.pv (.int .i64) :: (.pv (.int .i64) :: (dd 10 []))))), []⟩
def zA1.xs2 : List XS := [⟨.exit 0, [], ⟨dd 19 [], []⟩⟩, ⟨.ret, [4], ⟨dd 4 (.pv (.int .i64) :: (dd 14 [])), []⟩⟩]
def zA1.con (N : Nat) : Con := { modes := [.v], ptrs := [false], fn := fn1 s23 .imm (zA1 N) (fun r => [⟨(.int .i64), .imm, r⟩]) (fun r => []) }
def zA1.cfg (N : Nat) : Cfg := { ty := tys, keep := [16], flt := [], elm := elm0, live := [(2, [0, 1, 7, 8])], ord := [], con := [((65, [.one]), zBB.con N)], loops := [(2, loopCon N zA1.sk2 zA1.xs2 (fun {R} => zA1.l2 (R := R) N))], joins := [] }
theorem zA1.cons (N : Nat) : ConsOk Tryz.prog (zA1.cfg N).con := (consOk_cons (hb65) (zBB.ok N) (zBB.det N) consOk_nil)
theorem zA1.h2 {R : Type} (N : Nat) (d : zA1.sk2.D) (kn : zA1.sk2.D → Option R) (kx : XD zA1.xs2 → Option R) : roundK (zA1.cfg N) N (nthLoop (fnBody Tryz.f82) 0) zA1.sk2 zA1.xs2 d kn kx = zA1.l2 N d kn kx := by kernel_rfl
theorem zA1.i2 (N : Nat) : LoopsOk Tryz.prog (zA1.cfg N) (nthLoop (fnBody Tryz.f82) 0) := loopsL (l := []) (by kernel_rfl) trivial
theorem zA1.o2 (N : Nat) : LoopOk Tryz.prog (nthLoop (fnBody Tryz.f82) 0) (loopCon N zA1.sk2 zA1.xs2 (fun {R} => zA1.l2 (R := R) N)) := loop_ok (g := zA1.cfg N) tys_ok (zA1.cons N) mixed (zA1.i2 N) (fun d kn kx => zA1.h2 N d kn kx)
theorem zA1.ls (N : Nat) : LoopsOk Tryz.prog (zA1.cfg N) (fnBody Tryz.f82) := loopsL (l := [nthLoop (fnBody Tryz.f82) 0]) (by kernel_rfl) ⟨loopOne (L0 := loopCon N zA1.sk2 zA1.xs2 (fun {R} => zA1.l2 (R := R) N)) (id := 2) (by kernel_rfl) (by kernel_rfl) (zA1.o2 N), trivial⟩
theorem zA1.q2 {R R' : Type} {N n : Nat} {d} {k} {g : R → Option R'} : bindF (loopP (zA1.l2 N) n d k) g = loopP (zA1.l2 N) n d fun e => bindF (k e) g := bindF_loopP (fun d kn kx => by simp only [zA1.l2, bindF_ifB, bindF_bindO, bindF_pure, bindF_none, bindF_onSum]) n d k
theorem zA1.b (N : Nat) (x0 : den s23) : body (zA1.cfg N) N Tryz.f82 [.one, .fn 65 0] [.v] [(false, .imm)] [⟨s23, .imm, x0⟩] (fun r i => some (r, i)) = bindO (zA1 N x0) fun r => some ([⟨(.int .i64), .imm, r⟩], []) := by
  show _ = bindF _ _
  conv => rhs; simp only [zA1, bindF_ifB, bindF_bindO, bindF_pure, bindF_none, bindF_onSum, zA1.q2]
  kernel_rfl
theorem zA1.ok (N : Nat) : ConOk Tryz.prog 82 [.one, .fn 65 0] (zA1.con N) := ok1 (g := zA1.cfg N) (N := N) (res := [(false, .imm)]) tys_ok (zA1.cons N) mixed Tryz.func82 (zA1.ls N) rfl (zA1.b N)
theorem zA1.det (N : Nat) : ConDet (zA1.con N) := det1
def zAA.con (N : Nat) : Con := { modes := [.v], ptrs := [false], fn := fn1 s23 .imm (zAA N) (fun r => [⟨.bool, .imm, r⟩]) (fun r => []) }
def zAA.cfg (N : Nat) : Cfg := { ty := tys, keep := [7], flt := [], elm := elm0, live := [], ord := [], con := [((82, [.one, .fn 65 0]), zA1.con N)], loops := [], joins := [] }
theorem zAA.cons (N : Nat) : ConsOk Tryz.prog (zAA.cfg N).con := (consOk_cons (hb82) (zA1.ok N) (zA1.det N) consOk_nil)
theorem zAA.ls (N : Nat) : LoopsOk Tryz.prog (zAA.cfg N) (fnBody Tryz.f64) := loopsL (l := []) (by kernel_rfl) trivial
theorem zAA.b (N : Nat) (x0 : den s23) : body (zAA.cfg N) N Tryz.f64 [.one, .fn 65 0] [.v] [(false, .imm)] [⟨s23, .imm, x0⟩] (fun r i => some (r, i)) = bindO (zAA N x0) fun r => some ([⟨.bool, .imm, r⟩], []) := by
  show _ = bindF _ _
  conv => rhs; simp only [zAA, bindF_ifB, bindF_bindO, bindF_pure, bindF_none, bindF_onSum]
  kernel_rfl
theorem zAA.ok (N : Nat) : ConOk Tryz.prog 64 [.one, .fn 65 0] (zAA.con N) := ok1 (g := zAA.cfg N) (N := N) (res := [(false, .imm)]) tys_ok (zAA.cons N) mixed Tryz.func64 (zAA.ls N) rfl (zAA.b N)
theorem zAA.det (N : Nat) : ConDet (zAA.con N) := det1
def zBE.con (N : Nat) : Con := { modes := [.v], ptrs := [false], fn := fn1 s23 .imm (zBE N) (fun r => [⟨.bool, .imm, r⟩]) (fun r => []) }
def zBE.cfg (N : Nat) : Cfg := { ty := tys, keep := [8], flt := [], elm := elm0, live := [], ord := [], con := [((64, [.one, .fn 65 0]), zAA.con N)], loops := [], joins := [] }
theorem zBE.cons (N : Nat) : ConsOk Tryz.prog (zBE.cfg N).con := (consOk_cons (hb64) (zAA.ok N) (zAA.det N) consOk_nil)
theorem zBE.ls (N : Nat) : LoopsOk Tryz.prog (zBE.cfg N) (fnBody Tryz.f35) := loopsL (l := []) (by kernel_rfl) trivial
theorem zBE.b (N : Nat) (x0 : den s23) : body (zBE.cfg N) N Tryz.f35 [.one] [.v] [(false, .imm)] [⟨s23, .imm, x0⟩] (fun r i => some (r, i)) = bindO (zBE N x0) fun r => some ([⟨.bool, .imm, r⟩], []) := by
  show _ = bindF _ _
  conv => rhs; simp only [zBE, bindF_ifB, bindF_bindO, bindF_pure, bindF_none, bindF_onSum]
  kernel_rfl
theorem zBE.ok (N : Nat) : ConOk Tryz.prog 35 [.one] (zBE.con N) := ok1 (g := zBE.cfg N) (N := N) (res := [(false, .imm)]) tys_ok (zBE.cons N) mixed Tryz.func35 (zBE.ls N) rfl (zBE.b N)
theorem zBE.det (N : Nat) : ConDet (zBE.con N) := det1
def zAN.con (N : Nat) : Con := { modes := [.v], ptrs := [false], fn := fn1 s23 .imm (zAN N) (fun r => [⟨(.int .i64), .imm, r⟩]) (fun r => []) }
def zAN.cfg (N : Nat) : Cfg := { ty := tys, keep := [], flt := [], elm := elm0, live := [], ord := [], con := [], loops := [], joins := [] }
theorem zAN.cons (N : Nat) : ConsOk Tryz.prog (zAN.cfg N).con := consOk_nil
theorem zAN.ls (N : Nat) : LoopsOk Tryz.prog (zAN.cfg N) (fnBody Tryz.f48) := loopsL (l := []) (by kernel_rfl) trivial
theorem zAN.b (N : Nat) (x0 : den s23) : body (zAN.cfg N) N Tryz.f48 [.one] [.v] [(false, .imm)] [⟨s23, .imm, x0⟩] (fun r i => some (r, i)) = bindO (zAN N x0) fun r => some ([⟨(.int .i64), .imm, r⟩], []) := by
  show _ = bindF _ _
  conv => rhs; simp only [zAN, bindF_ifB, bindF_bindO, bindF_pure, bindF_none, bindF_onSum]
  kernel_rfl
theorem zAN.ok (N : Nat) : ConOk Tryz.prog 48 [.one] (zAN.con N) := ok1 (g := zAN.cfg N) (N := N) (res := [(false, .imm)]) tys_ok (zAN.cons N) mixed Tryz.func48 (zAN.ls N) rfl (zAN.b N)
theorem zAN.det (N : Nat) : ConDet (zAN.con N) := det1
def zBQ.con (N : Nat) : Con := { modes := [.rd, .v], ptrs := [false], fn := fn2 s24 .imm (.int .i64) .imm (zBQ N) (fun r => [⟨.bool, .imm, r⟩]) (fun r => []) }
def zBQ.cfg (N : Nat) : Cfg := { ty := tys, keep := [10, 11], flt := [], elm := elm0, live := [], ord := [], con := [((48, [.one]), zAN.con N), ((38, [.one, .one, .one]), zBH.con N)], loops := [], joins := [] }
theorem zBQ.cons (N : Nat) : ConsOk Tryz.prog (zBQ.cfg N).con := (consOk_cons (hb48) (zAN.ok N) (zAN.det N) (consOk_cons (hb38) (zBH.ok N) (zBH.det N) consOk_nil))
theorem zBQ.ls (N : Nat) : LoopsOk Tryz.prog (zBQ.cfg N) (fnBody Tryz.f36) := loopsL (l := []) (by kernel_rfl) trivial
theorem zBQ.b (N : Nat) (x0 : den s24) (x1 : den (.int .i64)) : body (zBQ.cfg N) N Tryz.f36 [.one, .one] [.rd, .v] [(false, .imm)] [⟨s24, .imm, x0⟩, ⟨(.int .i64), .imm, x1⟩] (fun r i => some (r, i)) = bindO (zBQ N x0 x1) fun r => some ([⟨.bool, .imm, r⟩], []) := by
  show _ = bindF _ _
  conv => rhs; simp only [zBQ, bindF_ifB, bindF_bindO, bindF_pure, bindF_none, bindF_onSum]
  kernel_rfl
theorem zBQ.ok (N : Nat) : ConOk Tryz.prog 36 [.one, .one] (zBQ.con N) := ok2 (g := zBQ.cfg N) (N := N) (res := [(false, .imm)]) tys_ok (zBQ.cons N) mixed Tryz.func36 (zBQ.ls N) rfl (zBQ.b N)
theorem zBQ.det (N : Nat) : ConDet (zBQ.con N) := det2
def zBU.con (N : Nat) : Con := { modes := [.v], ptrs := [false], fn := fn1 s24 .imm (zBU N) (fun r => [⟨.bool, .imm, r⟩]) (fun r => []) }
def zBU.cfg (N : Nat) : Cfg := { ty := tys, keep := [5, 9, 14], flt := [], elm := elm0, live := [], ord := [], con := [((35, [.one]), zBE.con N), ((36, [.one, .one]), zBQ.con N)], loops := [], joins := [] }
theorem zBU.cons (N : Nat) : ConsOk Tryz.prog (zBU.cfg N).con := (consOk_cons (hb35) (zBE.ok N) (zBE.det N) (consOk_cons (hb36) (zBQ.ok N) (zBQ.det N) consOk_nil))
theorem zBU.ls (N : Nat) : LoopsOk Tryz.prog (zBU.cfg N) (fnBody Tryz.f22) := loopsL (l := []) (by kernel_rfl) trivial
theorem zBU.b (N : Nat) (x0 : den s24) : body (zBU.cfg N) N Tryz.f22 [.one] [.v] [(false, .imm)] [⟨s24, .imm, x0⟩] (fun r i => some (r, i)) = bindO (zBU N x0) fun r => some ([⟨.bool, .imm, r⟩], []) := by
  show _ = bindF _ _
  conv => rhs; simp only [zBU, bindF_ifB, bindF_bindO, bindF_pure, bindF_none, bindF_onSum]
  kernel_rfl
theorem zBU.ok (N : Nat) : ConOk Tryz.prog 22 [.one] (zBU.con N) := ok1 (g := zBU.cfg N) (N := N) (res := [(false, .imm)]) tys_ok (zBU.cons N) mixed Tryz.func22 (zBU.ls N) rfl (zBU.b N)
theorem zBU.det (N : Nat) : ConDet (zBU.con N) := det1
def zCP.con (N : Nat) : Con := { modes := [.v], ptrs := [false], fn := fn1 s23 .imm (zCP N) (fun r => [⟨.bool, .imm, r⟩]) (fun r => []) }
def zCP.cfg (N : Nat) : Cfg := { ty := tys, keep := [8], flt := [], elm := elm0, live := [], ord := [], con := [((35, [.one]), zBE.con N)], loops := [], joins := [] }
theorem zCP.cons (N : Nat) : ConsOk Tryz.prog (zCP.cfg N).con := (consOk_cons (hb35) (zBE.ok N) (zBE.det N) consOk_nil)
theorem zCP.ls (N : Nat) : LoopsOk Tryz.prog (zCP.cfg N) (fnBody Tryz.f69) := loopsL (l := []) (by kernel_rfl) trivial
theorem zCP.b (N : Nat) (x0 : den s23) : body (zCP.cfg N) N Tryz.f69 [.one] [.v] [(false, .imm)] [⟨s23, .imm, x0⟩] (fun r i => some (r, i)) = bindO (zCP N x0) fun r => some ([⟨.bool, .imm, r⟩], []) := by
  show _ = bindF _ _
  conv => rhs; simp only [zCP, bindF_ifB, bindF_bindO, bindF_pure, bindF_none, bindF_onSum]
  kernel_rfl
theorem zCP.ok (N : Nat) : ConOk Tryz.prog 69 [.one] (zCP.con N) := ok1 (g := zCP.cfg N) (N := N) (res := [(false, .imm)]) tys_ok (zCP.cons N) mixed Tryz.func69 (zCP.ls N) rfl (zCP.b N)
theorem zCP.det (N : Nat) : ConDet (zCP.con N) := det1
def zBP.con (N : Nat) : Con := { modes := [.v], ptrs := [false], fn := fn1 s23 .imm (zBP N) (fun r => [⟨.bool, .imm, r⟩]) (fun r => []) }
def zBP.cfg (N : Nat) : Cfg := { ty := tys, keep := [4], flt := [], elm := elm0, live := [], ord := [], con := [((69, [.one]), zCP.con N)], loops := [], joins := [] }
theorem zBP.cons (N : Nat) : ConsOk Tryz.prog (zBP.cfg N).con := (consOk_cons (hb69) (zCP.ok N) (zCP.det N) consOk_nil)
theorem zBP.ls (N : Nat) : LoopsOk Tryz.prog (zBP.cfg N) (fnBody Tryz.f68) := loopsL (l := []) (by kernel_rfl) trivial
theorem zBP.b (N : Nat) (x0 : den s23) : body (zBP.cfg N) N Tryz.f68 [.one] [.v] [(false, .imm)] [⟨s23, .imm, x0⟩] (fun r i => some (r, i)) = bindO (zBP N x0) fun r => some ([⟨.bool, .imm, r⟩], []) := by
  show _ = bindF _ _
  conv => rhs; simp only [zBP, bindF_ifB, bindF_bindO, bindF_pure, bindF_none, bindF_onSum]
  kernel_rfl
theorem zBP.ok (N : Nat) : ConOk Tryz.prog 68 [.one] (zBP.con N) := ok1 (g := zBP.cfg N) (N := N) (res := [(false, .imm)]) tys_ok (zBP.cons N) mixed Tryz.func68 (zBP.ls N) rfl (zBP.b N)
theorem zBP.det (N : Nat) : ConDet (zBP.con N) := det1
def zA0.sk2 : Skel := ⟨.pv s26 :: (.fn 68 [] :: (dd 5 (.pv (.int .i64) :: (.pv (.int .i64) :: (dd 10 []))))), []⟩
def zA0.xs2 : List XS := [⟨.exit 0, [], ⟨dd 19 [], []⟩⟩, ⟨.ret, [4], ⟨dd 4 (.pv (.int .i64) :: (dd 14 [])), []⟩⟩]
def zA0.con (N : Nat) : Con := { modes := [.v], ptrs := [false], fn := fn1 s26 .imm (zA0 N) (fun r => [⟨(.int .i64), .imm, r⟩]) (fun r => []) }
def zA0.cfg (N : Nat) : Cfg := { ty := tys, keep := [16], flt := [], elm := elm0, live := [(2, [0, 1, 7, 8])], ord := [], con := [((68, [.one]), zBP.con N)], loops := [(2, loopCon N zA0.sk2 zA0.xs2 (fun {R} => zA0.l2 (R := R) N))], joins := [] }
theorem zA0.cons (N : Nat) : ConsOk Tryz.prog (zA0.cfg N).con := (consOk_cons (hb68) (zBP.ok N) (zBP.det N) consOk_nil)
theorem zA0.h2 {R : Type} (N : Nat) (d : zA0.sk2.D) (kn : zA0.sk2.D → Option R) (kx : XD zA0.xs2 → Option R) : roundK (zA0.cfg N) N (nthLoop (fnBody Tryz.f83) 0) zA0.sk2 zA0.xs2 d kn kx = zA0.l2 N d kn kx := by kernel_rfl
theorem zA0.i2 (N : Nat) : LoopsOk Tryz.prog (zA0.cfg N) (nthLoop (fnBody Tryz.f83) 0) := loopsL (l := []) (by kernel_rfl) trivial
theorem zA0.o2 (N : Nat) : LoopOk Tryz.prog (nthLoop (fnBody Tryz.f83) 0) (loopCon N zA0.sk2 zA0.xs2 (fun {R} => zA0.l2 (R := R) N)) := loop_ok (g := zA0.cfg N) tys_ok (zA0.cons N) mixed (zA0.i2 N) (fun d kn kx => zA0.h2 N d kn kx)
theorem zA0.ls (N : Nat) : LoopsOk Tryz.prog (zA0.cfg N) (fnBody Tryz.f83) := loopsL (l := [nthLoop (fnBody Tryz.f83) 0]) (by kernel_rfl) ⟨loopOne (L0 := loopCon N zA0.sk2 zA0.xs2 (fun {R} => zA0.l2 (R := R) N)) (id := 2) (by kernel_rfl) (by kernel_rfl) (zA0.o2 N), trivial⟩
theorem zA0.q2 {R R' : Type} {N n : Nat} {d} {k} {g : R → Option R'} : bindF (loopP (zA0.l2 N) n d k) g = loopP (zA0.l2 N) n d fun e => bindF (k e) g := bindF_loopP (fun d kn kx => by simp only [zA0.l2, bindF_ifB, bindF_bindO, bindF_pure, bindF_none, bindF_onSum]) n d k
theorem zA0.b (N : Nat) (x0 : den s26) : body (zA0.cfg N) N Tryz.f83 [.one, .fn 68 0] [.v] [(false, .imm)] [⟨s26, .imm, x0⟩] (fun r i => some (r, i)) = bindO (zA0 N x0) fun r => some ([⟨(.int .i64), .imm, r⟩], []) := by
  show _ = bindF _ _
  conv => rhs; simp only [zA0, bindF_ifB, bindF_bindO, bindF_pure, bindF_none, bindF_onSum, zA0.q2]
  kernel_rfl
theorem zA0.ok (N : Nat) : ConOk Tryz.prog 83 [.one, .fn 68 0] (zA0.con N) := ok1 (g := zA0.cfg N) (N := N) (res := [(false, .imm)]) tys_ok (zA0.cons N) mixed Tryz.func83 (zA0.ls N) rfl (zA0.b N)
theorem zA0.det (N : Nat) : ConDet (zA0.con N) := det1
def zA9.con (N : Nat) : Con := { modes := [.v], ptrs := [false], fn := fn1 s26 .imm (zA9 N) (fun r => [⟨.bool, .imm, r⟩]) (fun r => []) }
def zA9.cfg (N : Nat) : Cfg := { ty := tys, keep := [7], flt := [], elm := elm0, live := [], ord := [], con := [((83, [.one, .fn 68 0]), zA0.con N)], loops := [], joins := [] }
theorem zA9.cons (N : Nat) : ConsOk Tryz.prog (zA9.cfg N).con := (consOk_cons (hb83) (zA0.ok N) (zA0.det N) consOk_nil)
theorem zA9.ls (N : Nat) : LoopsOk Tryz.prog (zA9.cfg N) (fnBody Tryz.f67) := loopsL (l := []) (by kernel_rfl) trivial
theorem zA9.b (N : Nat) (x0 : den s26) : body (zA9.cfg N) N Tryz.f67 [.one, .fn 68 0] [.v] [(false, .imm)] [⟨s26, .imm, x0⟩] (fun r i => some (r, i)) = bindO (zA9 N x0) fun r => some ([⟨.bool, .imm, r⟩], []) := by
  show _ = bindF _ _
  conv => rhs; simp only [zA9, bindF_ifB, bindF_bindO, bindF_pure, bindF_none, bindF_onSum]
  kernel_rfl
theorem zA9.ok (N : Nat) : ConOk Tryz.prog 67 [.one, .fn 68 0] (zA9.con N) := ok1 (g := zA9.cfg N) (N := N) (res := [(false, .imm)]) tys_ok (zA9.cons N) mixed Tryz.func67 (zA9.ls N) rfl (zA9.b N)
theorem zA9.det (N : Nat) : ConDet (zA9.con N) := det1
def zCA.con (N : Nat) : Con := { modes := [.v], ptrs := [false], fn := fn1 s26 .imm (zCA N) (fun r => [⟨.bool, .imm, r⟩]) (fun r => []) }
def zCA.cfg (N : Nat) : Cfg := { ty := tys, keep := [4], flt := [], elm := elm0, live := [], ord := [], con := [((67, [.one, .fn 68 0]), zA9.con N)], loops := [], joins := [] }
theorem zCA.cons (N : Nat) : ConsOk Tryz.prog (zCA.cfg N).con := (consOk_cons (hb67) (zA9.ok N) (zA9.det N) consOk_nil)
theorem zCA.ls (N : Nat) : LoopsOk Tryz.prog (zCA.cfg N) (fnBody Tryz.f37) := loopsL (l := []) (by kernel_rfl) trivial
theorem zCA.b (N : Nat) (x0 : den s26) : body (zCA.cfg N) N Tryz.f37 [.one] [.v] [(false, .imm)] [⟨s26, .imm, x0⟩] (fun r i => some (r, i)) = bindO (zCA N x0) fun r => some ([⟨.bool, .imm, r⟩], []) := by
  show _ = bindF _ _
  conv => rhs; simp only [zCA, bindF_ifB, bindF_bindO, bindF_pure, bindF_none, bindF_onSum]
  kernel_rfl
theorem zCA.ok (N : Nat) : ConOk Tryz.prog 37 [.one] (zCA.con N) := ok1 (g := zCA.cfg N) (N := N) (res := [(false, .imm)]) tys_ok (zCA.cons N) mixed Tryz.func37 (zCA.ls N) rfl (zCA.b N)
theorem zCA.det (N : Nat) : ConDet (zCA.con N) := det1
def zBO.con (N : Nat) : Con := { modes := [.v], ptrs := [false], fn := fn1 s26 .imm (zBO N) (fun r => [⟨(.int .i64), .imm, r⟩]) (fun r => []) }
def zBO.cfg (N : Nat) : Cfg := { ty := tys, keep := [], flt := [], elm := elm0, live := [], ord := [], con := [], loops := [], joins := [] }
theorem zBO.cons (N : Nat) : ConsOk Tryz.prog (zBO.cfg N).con := consOk_nil
theorem zBO.ls (N : Nat) : LoopsOk Tryz.prog (zBO.cfg N) (fnBody Tryz.f39) := loopsL (l := []) (by kernel_rfl) trivial
theorem zBO.b (N : Nat) (x0 : den s26) : body (zBO.cfg N) N Tryz.f39 [.one] [.v] [(false, .imm)] [⟨s26, .imm, x0⟩] (fun r i => some (r, i)) = bindO (zBO N x0) fun r => some ([⟨(.int .i64), .imm, r⟩], []) := by
  show _ = bindF _ _
  conv => rhs; simp only [zBO, bindF_ifB, bindF_bindO, bindF_pure, bindF_none, bindF_onSum]
  kernel_rfl
theorem zBO.ok (N : Nat) : ConOk Tryz.prog 39 [.one] (zBO.con N) := ok1 (g := zBO.cfg N) (N := N) (res := [(false, .imm)]) tys_ok (zBO.cons N) mixed Tryz.func39 (zBO.ls N) rfl (zBO.b N)
theorem zBO.det (N : Nat) : ConDet (zBO.con N) := det1
end Go.AE.F
end
