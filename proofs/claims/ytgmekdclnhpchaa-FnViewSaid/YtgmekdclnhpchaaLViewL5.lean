/- The printed functions are what the program comes to: contracts. -/
import Derived.Test.YtgmekdclnhpchaaLViewL4
noncomputable section
namespace Go.AE.F
open Go.AE Go.Proofs
set_option maxRecDepth 100000
def zB1.con (N : Nat) : Con := { modes := [.v, .v], ptrs := [false], fn := fn2 s61 .imm s61 .imm (zB1 N) (fun r => [⟨.bool, .imm, r⟩]) (fun r => []) }
def zB1.cfg (N : Nat) : Cfg := { ty := tys, keep := [15], flt := [], elm := elm0, live := [], ord := [], con := [((56, [.one, .one]), zA2.con N)], loops := [], joins := [] }
theorem zB1.cons (N : Nat) : ConsOk Try.prog (zB1.cfg N).con := (consOk_cons (hb56) (zA2.ok N) (zA2.det N) consOk_nil)
theorem zB1.ls (N : Nat) : LoopsOk Try.prog (zB1.cfg N) (fnBody Try.f55) := loopsL (l := []) (by kernel_rfl) trivial
theorem zB1.b (N : Nat) (x0 : den s61) (x1 : den s61) : body (zB1.cfg N) N Try.f55 [.one, .one] [.v, .v] [(false, .imm)] [⟨s61, .imm, x0⟩, ⟨s61, .imm, x1⟩] (fun r i => some (r, i)) = bindO (zB1 N x0 x1) fun r => some ([⟨.bool, .imm, r⟩], []) := by
  show _ = bindF _ _
  conv => rhs; simp only [zB1, bindF_ifB, bindF_bindO, bindF_pure, bindF_none, bindF_onSum]
  kernel_rfl
theorem zB1.ok (N : Nat) : ConOk Try.prog 55 [.one, .one] (zB1.con N) := ok2 (g := zB1.cfg N) (N := N) (res := [(false, .imm)]) tys_ok (zB1.cons N) mixed Try.func55 (zB1.ls N) rfl (zB1.b N)
theorem zB1.det (N : Nat) : ConDet (zB1.con N) := det2
def zA0.sk4 : Skel := ⟨dd 1 (.pv s28 :: (.fn 55 [] :: (dd 12 (.pv s28 :: (.pv (.int .i64) :: (.pv (.int .i64) :: (dd 14 []))))))), []⟩
def zA0.xs4 : List XS := [⟨.exit 0, [], ⟨dd 32 [], []⟩⟩, ⟨.ret, [6], ⟨dd 6 (.pv .bool :: (dd 25 [])), []⟩⟩]
def zA0.con (N : Nat) : Con := { modes := [.v, .v], ptrs := [false], fn := fn2 s28 .imm s28 .imm (zA0 N) (fun r => [⟨.bool, .imm, r⟩]) (fun r => []) }
def zA0.cfg (N : Nat) : Cfg := { ty := tys, keep := [29], flt := [], elm := elm0, live := [(4, [1, 2, 15, 16, 17])], ord := [], con := [((55, [.one, .one]), zB1.con N)], loops := [(4, loopCon N zA0.sk4 zA0.xs4 (fun {R} => zA0.l4 (R := R) N))], joins := [] }
theorem zA0.cons (N : Nat) : ConsOk Try.prog (zA0.cfg N).con := (consOk_cons (hb55) (zB1.ok N) (zB1.det N) consOk_nil)
theorem zA0.h4 {R : Type} (N : Nat) (d : zA0.sk4.D) (kn : zA0.sk4.D → Option R) (kx : XD zA0.xs4 → Option R) : roundK (zA0.cfg N) N (nthLoop (fnBody Try.f54) 0) zA0.sk4 zA0.xs4 d kn kx = zA0.l4 N d kn kx := by kernel_rfl
theorem zA0.i4 (N : Nat) : LoopsOk Try.prog (zA0.cfg N) (nthLoop (fnBody Try.f54) 0) := loopsL (l := []) (by kernel_rfl) trivial
theorem zA0.o4 (N : Nat) : LoopOk Try.prog (nthLoop (fnBody Try.f54) 0) (loopCon N zA0.sk4 zA0.xs4 (fun {R} => zA0.l4 (R := R) N)) := loop_ok (g := zA0.cfg N) tys_ok (zA0.cons N) mixed (zA0.i4 N) (fun d kn kx => zA0.h4 N d kn kx)
theorem zA0.ls (N : Nat) : LoopsOk Try.prog (zA0.cfg N) (fnBody Try.f54) := loopsL (l := [nthLoop (fnBody Try.f54) 0]) (by kernel_rfl) ⟨loopOne (L0 := loopCon N zA0.sk4 zA0.xs4 (fun {R} => zA0.l4 (R := R) N)) (id := 4) (by kernel_rfl) (by kernel_rfl) (zA0.o4 N), trivial⟩
theorem zA0.q4 {R R' : Type} {N n : Nat} {d} {k} {g : R → Option R'} : bindF (loopP (zA0.l4 N) n d k) g = loopP (zA0.l4 N) n d fun e => bindF (k e) g := bindF_loopP (fun d kn kx => by simp only [zA0.l4, bindF_ifB, bindF_bindO, bindF_pure, bindF_none, bindF_onSum]) n d k
theorem zA0.b (N : Nat) (x0 : den s28) (x1 : den s28) : body (zA0.cfg N) N Try.f54 [.one, .one, .fn 55 0] [.v, .v] [(false, .imm)] [⟨s28, .imm, x0⟩, ⟨s28, .imm, x1⟩] (fun r i => some (r, i)) = bindO (zA0 N x0 x1) fun r => some ([⟨.bool, .imm, r⟩], []) := by
  show _ = bindF _ _
  conv => rhs; simp only [zA0, bindF_ifB, bindF_bindO, bindF_pure, bindF_none, bindF_onSum, zA0.q4]
  kernel_rfl
theorem zA0.ok (N : Nat) : ConOk Try.prog 54 [.one, .one, .fn 55 0] (zA0.con N) := ok2 (g := zA0.cfg N) (N := N) (res := [(false, .imm)]) tys_ok (zA0.cons N) mixed Try.func54 (zA0.ls N) rfl (zA0.b N)
theorem zA0.det (N : Nat) : ConDet (zA0.con N) := det2
def zBB.con (N : Nat) : Con := { modes := [.v, .v], ptrs := [false], fn := fn2 s28 .imm s28 .imm (zBB N) (fun r => [⟨.bool, .imm, r⟩]) (fun r => []) }
def zBB.cfg (N : Nat) : Cfg := { ty := tys, keep := [7], flt := [], elm := elm0, live := [], ord := [], con := [((54, [.one, .one, .fn 55 0]), zA0.con N)], loops := [], joins := [] }
theorem zBB.cons (N : Nat) : ConsOk Try.prog (zBB.cfg N).con := (consOk_cons (hb54) (zA0.ok N) (zA0.det N) consOk_nil)
theorem zBB.ls (N : Nat) : LoopsOk Try.prog (zBB.cfg N) (fnBody Try.f39) := loopsL (l := []) (by kernel_rfl) trivial
theorem zBB.b (N : Nat) (x0 : den s28) (x1 : den s28) : body (zBB.cfg N) N Try.f39 [.one, .one] [.v, .v] [(false, .imm)] [⟨s28, .imm, x0⟩, ⟨s28, .imm, x1⟩] (fun r i => some (r, i)) = bindO (zBB N x0 x1) fun r => some ([⟨.bool, .imm, r⟩], []) := by
  show _ = bindF _ _
  conv => rhs; simp only [zBB, bindF_ifB, bindF_bindO, bindF_pure, bindF_none, bindF_onSum]
  kernel_rfl
theorem zBB.ok (N : Nat) : ConOk Try.prog 39 [.one, .one] (zBB.con N) := ok2 (g := zBB.cfg N) (N := N) (res := [(false, .imm)]) tys_ok (zBB.cons N) mixed Try.func39 (zBB.ls N) rfl (zBB.b N)
theorem zBB.det (N : Nat) : ConDet (zBB.con N) := det2
def zBK.con (N : Nat) : Con := { modes := [.v, .v], ptrs := [false], fn := fn2 s29 .imm s29 .imm (zBK N) (fun r => [⟨.bool, .imm, r⟩]) (fun r => []) }
def zBK.cfg (N : Nat) : Cfg := { ty := tys, keep := [22], flt := [], elm := elm0, live := [], ord := [], con := [((39, [.one, .one]), zBB.con N)], loops := [], joins := [] }
theorem zBK.cons (N : Nat) : ConsOk Try.prog (zBK.cfg N).con := (consOk_cons (hb39) (zBB.ok N) (zBB.det N) consOk_nil)
theorem zBK.ls (N : Nat) : LoopsOk Try.prog (zBK.cfg N) (fnBody Try.f12) := loopsL (l := []) (by kernel_rfl) trivial
theorem zBK.b (N : Nat) (x0 : den s29) (x1 : den s29) : body (zBK.cfg N) N Try.f12 [.one, .one] [.v, .v] [(false, .imm)] [⟨s29, .imm, x0⟩, ⟨s29, .imm, x1⟩] (fun r i => some (r, i)) = bindO (zBK N x0 x1) fun r => some ([⟨.bool, .imm, r⟩], []) := by
  show _ = bindF _ _
  conv => rhs; simp only [zBK, bindF_ifB, bindF_bindO, bindF_pure, bindF_none, bindF_onSum]
  kernel_rfl
theorem zBK.ok (N : Nat) : ConOk Try.prog 12 [.one, .one] (zBK.con N) := ok2 (g := zBK.cfg N) (N := N) (res := [(false, .imm)]) tys_ok (zBK.cons N) mixed Try.func12 (zBK.ls N) rfl (zBK.b N)
theorem zBK.det (N : Nat) : ConDet (zBK.con N) := det2
def zBR.con (N : Nat) : Con := { modes := [.v], ptrs := [false], fn := fn1 s22 .imm (zBR N) (fun r => [⟨.bool, .imm, r⟩]) (fun r => []) }
def zBR.cfg (N : Nat) : Cfg := { ty := tys, keep := [], flt := [], elm := elm0, live := [], ord := [(5, [7, 0, 2, 3, 4, 5, 1, 6, 8]), (10, [7, 0, 2, 3, 4, 5, 1, 6, 8]), (15, [0, 1, 2, 4, 5, 3, 6, 7, 8, 9, 10, 11, 12, 13, 14, 15])], con := [((4, [.one]), zB6.con N), ((5, [.one, .one, .one, .one, .one]), zA8.con N), ((7, [.one]), zBO.con N), ((6, [.one, .one, .one, .one, .one]), zAJ.con N), ((8, [.one, .one, .one, .one]), zBF.con N), ((9, [.one]), zAA.con N), ((10, [.one]), zAC.con N), ((11, [.one, .one, .one]), zBL.con N), ((12, [.one, .one]), zBK.con N)], loops := [], joins := [] }
theorem zBR.cons (N : Nat) : ConsOk Try.prog (zBR.cfg N).con := (consOk_cons (hb4) (zB6.ok N) (zB6.det N) (consOk_cons (hb5) (zA8.ok N) (zA8.det N) (consOk_cons (hb7) (zBO.ok N) (zBO.det N) (consOk_cons (hb6) (zAJ.ok N) (zAJ.det N) (consOk_cons (hb8) (zBF.ok N) (zBF.det N) (consOk_cons (hb9) (zAA.ok N) (zAA.det N) (consOk_cons (hb10) (zAC.ok N) (zAC.det N) (consOk_cons (hb11) (zBL.ok N) (zBL.det N) (consOk_cons (hb12) (zBK.ok N) (zBK.det N) consOk_nil)))))))))
theorem zBR.ls (N : Nat) : LoopsOk Try.prog (zBR.cfg N) (fnBody Try.f3) := loopsL (l := []) (by kernel_rfl) trivial
theorem zBR.b (N : Nat) (x0 : den s22) : body (zBR.cfg N) N Try.f3 [.one] [.v] [(false, .imm)] [⟨s22, .imm, x0⟩] (fun r i => some (r, i)) = bindO (zBR N x0) fun r => some ([⟨.bool, .imm, r⟩], []) := by
  show _ = bindF _ _
  conv => rhs; simp only [zBR, bindF_ifB, bindF_bindO, bindF_pure, bindF_none, bindF_onSum]
  kernel_rfl
theorem zBR.ok (N : Nat) : ConOk Try.prog 3 [.one] (zBR.con N) := ok1 (g := zBR.cfg N) (N := N) (res := [(false, .imm)]) tys_ok (zBR.cons N) mixed Try.func3 (zBR.ls N) rfl (zBR.b N)
theorem zBR.det (N : Nat) : ConDet (zBR.con N) := det1
end Go.AE.F
end
