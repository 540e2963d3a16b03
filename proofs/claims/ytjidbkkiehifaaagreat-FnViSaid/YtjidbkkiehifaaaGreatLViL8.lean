/- The printed functions are what the program comes to: contracts. -/
import Derived.Test.YtjidbkkiehifaaaGreatLViL7
noncomputable section
namespace Go.AE.F
open Go.AE Go.Proofs
set_option maxRecDepth 100000
def zCE.con (N : Nat) : Con := { modes := [.v], ptrs := [false], fn := fn1 (.int .i64) .imm (zCE N) (fun r => [⟨(.int .i64), .imm, r⟩]) (fun r => []) }
def zCE.cfg (N : Nat) : Cfg := { ty := tys, keep := [4, 7], flt := [], elm := elm0, live := [], ord := [], con := [((31, [.one, .one, .one]), zBM.con N)], loops := [], joins := [] }
theorem zCE.cons (N : Nat) : ConsOk Tryz.prog (zCE.cfg N).con := (consOk_cons (hb31) (zBM.ok N) (zBM.det N) consOk_nil)
theorem zCE.ls (N : Nat) : LoopsOk Tryz.prog (zCE.cfg N) (fnBody Tryz.f55) := loopsL (l := []) (by kernel_rfl) trivial
theorem zCE.b (N : Nat) (x0 : den (.int .i64)) : body (zCE.cfg N) N Tryz.f55 [.one] [.v] [(false, .imm)] [⟨(.int .i64), .imm, x0⟩] (fun r i => some (r, i)) = bindO (zCE N x0) fun r => some ([⟨(.int .i64), .imm, r⟩], []) := by
  show _ = bindF _ _
  conv => rhs; simp only [zCE, bindF_ifB, bindF_bindO, bindF_pure, bindF_none, bindF_onSum]
  kernel_rfl
theorem zCE.ok (N : Nat) : ConOk Tryz.prog 55 [.one] (zCE.con N) := ok1 (g := zCE.cfg N) (N := N) (res := [(false, .imm)]) tys_ok (zCE.cons N) mixed Tryz.func55 (zCE.ls N) rfl (zCE.b N)
theorem zCE.det (N : Nat) : ConDet (zCE.con N) := det1
def zAA.sk26 : Skel := ⟨.ptr 0 [] :: (dd 166 (.pv (.int .i64) :: (.pv (.int .i64) :: (dd 73 [])))), [⟨0, s31, (.pr (.pr (.own .imm) .imm) (.pr (.pr (.own (.own .imm)) .imm) .imm)), true, false⟩]⟩
def zAA.xs26 : List XS := [⟨.exit 3, [], ⟨dd 242 [], [⟨0, s31, (.pr (.pr (.own .imm) .imm) (.pr (.pr (.own (.own .imm)) .imm) .imm)), true, false⟩]⟩⟩, ⟨.ret, [4], ⟨dd 4 (.pv (.int .i64) :: (dd 237 [])), [⟨0, s31, (.pr (.pr (.own .imm) .imm) (.pr (.pr (.own (.own .imm)) .imm) .imm)), true, false⟩]⟩⟩]
def zAA.sk36 : Skel := ⟨.ptr 0 [] :: (dd 9 (.pv (.int .i64) :: (.pv (.int .i64) :: (dd 230 [])))), [⟨0, s31, (.pr (.pr (.own .imm) .imm) (.pr (.pr (.own (.own .imm)) .imm) .imm)), true, false⟩]⟩
def zAA.xs36 : List XS := [⟨.exit 5, [0, 10], ⟨.ptr 0 [] :: (dd 9 (.pv (.int .i64) :: (dd 231 []))), [⟨0, s31, (.pr (.pr (.own .imm) .imm) (.pr (.pr (.own (.own .imm)) .imm) .imm)), true, false⟩]⟩⟩]
def zAA.con (N : Nat) : Con := { modes := [.io, .v], ptrs := [false], fn := fn2 s31 (.pr (.pr (.own .imm) .imm) (.pr (.pr (.own (.own .imm)) .imm) .imm)) s51 .imm (zAA N) (fun r => [⟨(.int .i64), .imm, r.1⟩]) (fun r => [⟨s31, (.pr (.pr (.own .imm) .imm) (.pr (.pr (.own (.own .imm)) .imm) .imm)), r.2⟩]) }
def zAA.cfg (N : Nat) : Cfg := { ty := tys, keep := [20, 73, 107, 118, 123, 94, 97, 134, 161, 178, 203, 211, 235, 36, 48, 59], flt := [], elm := elm0, live := [(26, [0, 167, 168]), (36, [0, 10, 11])], ord := [(12, [0, 1, 2, 3, 4, 5, 6, 7, 8, 9, 10, 11]), (17, [0, 1, 2, 3, 4, 5, 6]), (19, [0, 1, 2, 3, 5, 6, 7, 8, 4, 9, 10, 11]), (15, [0, 1, 2, 3, 4, 7, 8, 5, 6, 9, 10]), (27, [9, 0, 1, 2, 3, 4, 5, 6, 7, 8, 10]), (33, [0, 1, 2, 3, 4, 5, 6, 7, 8, 9, 10, 11]), (38, [0, 1, 2, 3, 4, 5, 6, 7, 8, 9, 10, 11, 12, 13, 14, 15, 16])], con := [((48, [.one]), zCM.con N), ((49, [.one, .one, .one, .one]), zAM.con N), ((50, [.one, .one]), zAJ.con N), ((51, [.one, .one]), zAT.con N), ((52, [.one, .one, .one, .one]), zC4.con N), ((53, [.one]), zAN.con N), ((54, [.one, .one]), zCG.con N), ((44, [.one]), zAB.con N), ((55, [.one]), zCE.con N)], loops := [(26, loopCon N zAA.sk26 zAA.xs26 (fun {R} => zAA.l26 (R := R) N)), (36, loopCon N zAA.sk36 zAA.xs36 (fun {R} => zAA.l36 (R := R) N))], joins := [(20, [⟨.normal, [0, 3, 7, 8], ⟨.ptr 0 [] :: (dd 2 (.ptr 50 [] :: (dd 3 (.pv (.int .i64) :: (.pv (.int .i64) :: (dd 233 [])))))), [⟨0, s31, (.pr (.pr (.own .imm) .imm) (.pr (.pr (.own (.own .imm)) .imm) .imm)), true, false⟩, ⟨50, s51, .imm, true, false⟩]⟩⟩]), (40, [⟨.normal, [], ⟨dd 242 [], [⟨0, s31, (.pr (.pr (.own .imm) .imm) (.pr (.pr (.own (.own .imm)) .imm) .imm)), true, false⟩]⟩⟩, ⟨.ret, [4], ⟨dd 4 (.pv (.int .i64) :: (dd 237 [])), [⟨0, s31, (.pr (.pr (.own .imm) .imm) (.pr (.pr (.own (.own .imm)) .imm) .imm)), true, false⟩]⟩⟩])] }
theorem zAA.cons (N : Nat) : ConsOk Tryz.prog (zAA.cfg N).con := (consOk_cons (hb48) (zCM.ok N) (zCM.det N) (consOk_cons (hb49) (zAM.ok N) (zAM.det N) (consOk_cons (hb50) (zAJ.ok N) (zAJ.det N) (consOk_cons (hb51) (zAT.ok N) (zAT.det N) (consOk_cons (hb52) (zC4.ok N) (zC4.det N) (consOk_cons (hb53) (zAN.ok N) (zAN.det N) (consOk_cons (hb54) (zCG.ok N) (zCG.det N) (consOk_cons (hb44) (zAB.ok N) (zAB.det N) (consOk_cons (hb55) (zCE.ok N) (zCE.det N) consOk_nil)))))))))
theorem zAA.h36 {R : Type} (N : Nat) (d : zAA.sk36.D) (kn : zAA.sk36.D → Option R) (kx : XD zAA.xs36 → Option R) : roundK (zAA.cfg N) N (nthLoop (fnBody Tryz.f25) 1) zAA.sk36 zAA.xs36 d kn kx = zAA.l36 N d kn kx := by kernel_rfl
theorem zAA.i36 (N : Nat) : LoopsOk Tryz.prog (zAA.cfg N) (nthLoop (fnBody Tryz.f25) 1) := loopsL (l := []) (by kernel_rfl) trivial
theorem zAA.o36 (N : Nat) : LoopOk Tryz.prog (nthLoop (fnBody Tryz.f25) 1) (loopCon N zAA.sk36 zAA.xs36 (fun {R} => zAA.l36 (R := R) N)) := loop_ok (g := zAA.cfg N) tys_ok (zAA.cons N) mixed (zAA.i36 N) (fun d kn kx => zAA.h36 N d kn kx)
theorem zAA.h26 {R : Type} (N : Nat) (d : zAA.sk26.D) (kn : zAA.sk26.D → Option R) (kx : XD zAA.xs26 → Option R) : roundK (zAA.cfg N) N (nthLoop (fnBody Tryz.f25) 0) zAA.sk26 zAA.xs26 d kn kx = zAA.l26 N d kn kx := by kernel_rfl
theorem zAA.i26 (N : Nat) : LoopsOk Tryz.prog (zAA.cfg N) (nthLoop (fnBody Tryz.f25) 0) := loopsL (l := []) (by kernel_rfl) trivial
theorem zAA.o26 (N : Nat) : LoopOk Tryz.prog (nthLoop (fnBody Tryz.f25) 0) (loopCon N zAA.sk26 zAA.xs26 (fun {R} => zAA.l26 (R := R) N)) := loop_ok (g := zAA.cfg N) tys_ok (zAA.cons N) mixed (zAA.i26 N) (fun d kn kx => zAA.h26 N d kn kx)
theorem zAA.ls (N : Nat) : LoopsOk Tryz.prog (zAA.cfg N) (fnBody Tryz.f25) := loopsL (l := [nthLoop (fnBody Tryz.f25) 0, nthLoop (fnBody Tryz.f25) 1]) (by kernel_rfl) ⟨loopOne (L0 := loopCon N zAA.sk26 zAA.xs26 (fun {R} => zAA.l26 (R := R) N)) (id := 26) (by kernel_rfl) (by kernel_rfl) (zAA.o26 N), ⟨loopOne (L0 := loopCon N zAA.sk36 zAA.xs36 (fun {R} => zAA.l36 (R := R) N)) (id := 36) (by kernel_rfl) (by kernel_rfl) (zAA.o36 N), trivial⟩⟩
theorem zAA.q36 {R R' : Type} {N n : Nat} {d} {k} {g : R → Option R'} : bindF (loopP (zAA.l36 N) n d k) g = loopP (zAA.l36 N) n d fun e => bindF (k e) g := bindF_loopP (fun d kn kx => by simp only [zAA.l36, bindF_ifB, bindF_bindO, bindF_pure, bindF_none, bindF_onSum]) n d k
theorem zAA.q26 {R R' : Type} {N n : Nat} {d} {k} {g : R → Option R'} : bindF (loopP (zAA.l26 N) n d k) g = loopP (zAA.l26 N) n d fun e => bindF (k e) g := bindF_loopP (fun d kn kx => by simp only [zAA.l26, bindF_ifB, bindF_bindO, bindF_pure, bindF_none, bindF_onSum]) n d k
theorem zAA.b (N : Nat) (x0 : den s31) (x1 : den s51) : body (zAA.cfg N) N Tryz.f25 [.one, .one] [.io, .v] [(false, .imm)] [⟨s31, (.pr (.pr (.own .imm) .imm) (.pr (.pr (.own (.own .imm)) .imm) .imm)), x0⟩, ⟨s51, .imm, x1⟩] (fun r i => some (r, i)) = bindO (zAA N x0 x1) fun r => some ([⟨(.int .i64), .imm, r.1⟩], [⟨s31, (.pr (.pr (.own .imm) .imm) (.pr (.pr (.own (.own .imm)) .imm) .imm)), r.2⟩]) := by
  show _ = bindF _ _
  conv => rhs; simp only [zAA, bindF_ifB, bindF_bindO, bindF_pure, bindF_none, bindF_onSum, zAA.q26, zAA.q36]
  kernel_rfl
theorem zAA.ok (N : Nat) : ConOk Tryz.prog 25 [.one, .one] (zAA.con N) := ok2 (g := zAA.cfg N) (N := N) (res := [(false, .imm)]) tys_ok (zAA.cons N) mixed Tryz.func25 (zAA.ls N) rfl (zAA.b N)
theorem zAA.det (N : Nat) : ConDet (zAA.con N) := det2
def zBB.sk2 : Skel := ⟨dd 2 (.pv .str :: (dd 3 (.ptr 50 [] :: (.ptr 51 [] :: (dd 46 []))))), [⟨50, s31, (.pr (.pr (.own .imm) .imm) (.pr (.pr (.own (.own .imm)) .imm) .imm)), true, false⟩, ⟨51, s31, (.pr (.pr (.own .imm) .imm) (.pr (.pr (.own (.own .imm)) .imm) .imm)), true, false⟩]⟩
def zBB.xs2 : List XS := [⟨.exit 0, [6, 7], ⟨dd 6 (.ptr 50 [] :: (.ptr 51 [] :: (dd 46 []))), [⟨50, s31, (.pr (.pr (.own .imm) .imm) (.pr (.pr (.own (.own .imm)) .imm) .imm)), true, false⟩, ⟨51, s31, (.pr (.pr (.own .imm) .imm) (.pr (.pr (.own (.own .imm)) .imm) .imm)), true, false⟩]⟩⟩]
def zBB.con (N : Nat) : Con := { modes := [.v, .v, .v], ptrs := [false], fn := fn3 s24 .imm s27 .imm .str .imm (zBB N) (fun r => [⟨s31, (.pr (.pr (.own .imm) .imm) (.pr (.pr (.own (.own .imm)) .imm) .imm)), r⟩]) (fun r => []) }
def zBB.cfg (N : Nat) : Cfg := { ty := tys, keep := [12, 14, 25, 30, 33, 43], flt := [], elm := elm0, live := [(2, [2, 6, 7, 19, 20, 21])], ord := [(1, [5, 0, 2, 1, 3, 4, 6]), (4, [12, 0, 1, 3, 4, 6, 7, 8, 9, 10, 2, 5, 11, 13])], con := [((22, [.one]), zC1.con N), ((23, [.one]), zBS.con N), ((24, [.one]), zAI.con N), ((25, [.one, .one]), zAA.con N)], loops := [(2, loopCon N zBB.sk2 zBB.xs2 (fun {R} => zBB.l2 (R := R) N))], joins := [] }
theorem zBB.cons (N : Nat) : ConsOk Tryz.prog (zBB.cfg N).con := (consOk_cons (hb22) (zC1.ok N) (zC1.det N) (consOk_cons (hb23) (zBS.ok N) (zBS.det N) (consOk_cons (hb24) (zAI.ok N) (zAI.det N) (consOk_cons (hb25) (zAA.ok N) (zAA.det N) consOk_nil))))
theorem zBB.h2 {R : Type} (N : Nat) (d : zBB.sk2.D) (kn : zBB.sk2.D → Option R) (kx : XD zBB.xs2 → Option R) : roundK (zBB.cfg N) N (nthLoop (fnBody Tryz.f21) 0) zBB.sk2 zBB.xs2 d kn kx = zBB.l2 N d kn kx := by kernel_rfl
theorem zBB.i2 (N : Nat) : LoopsOk Tryz.prog (zBB.cfg N) (nthLoop (fnBody Tryz.f21) 0) := loopsL (l := []) (by kernel_rfl) trivial
theorem zBB.o2 (N : Nat) : LoopOk Tryz.prog (nthLoop (fnBody Tryz.f21) 0) (loopCon N zBB.sk2 zBB.xs2 (fun {R} => zBB.l2 (R := R) N)) := loop_ok (g := zBB.cfg N) tys_ok (zBB.cons N) mixed (zBB.i2 N) (fun d kn kx => zBB.h2 N d kn kx)
theorem zBB.ls (N : Nat) : LoopsOk Tryz.prog (zBB.cfg N) (fnBody Tryz.f21) := loopsL (l := [nthLoop (fnBody Tryz.f21) 0]) (by kernel_rfl) ⟨loopOne (L0 := loopCon N zBB.sk2 zBB.xs2 (fun {R} => zBB.l2 (R := R) N)) (id := 2) (by kernel_rfl) (by kernel_rfl) (zBB.o2 N), trivial⟩
theorem zBB.q2 {R R' : Type} {N n : Nat} {d} {k} {g : R → Option R'} : bindF (loopP (zBB.l2 N) n d k) g = loopP (zBB.l2 N) n d fun e => bindF (k e) g := bindF_loopP (fun d kn kx => by simp only [zBB.l2, bindF_ifB, bindF_bindO, bindF_pure, bindF_none, bindF_onSum]) n d k
theorem zBB.b (N : Nat) (x0 : den s24) (x1 : den s27) (x2 : den .str) : body (zBB.cfg N) N Tryz.f21 [.one, .one, .one] [.v, .v, .v] [(false, (.pr (.pr (.own .imm) .imm) (.pr (.pr (.own (.own .imm)) .imm) .imm)))] [⟨s24, .imm, x0⟩, ⟨s27, .imm, x1⟩, ⟨.str, .imm, x2⟩] (fun r i => some (r, i)) = bindO (zBB N x0 x1 x2) fun r => some ([⟨s31, (.pr (.pr (.own .imm) .imm) (.pr (.pr (.own (.own .imm)) .imm) .imm)), r⟩], []) := by
  show _ = bindF _ _
  conv => rhs; simp only [zBB, bindF_ifB, bindF_bindO, bindF_pure, bindF_none, bindF_onSum, zBB.q2]
  kernel_rfl
theorem zBB.ok (N : Nat) : ConOk Tryz.prog 21 [.one, .one, .one] (zBB.con N) := ok3 (g := zBB.cfg N) (N := N) (res := [(false, (.pr (.pr (.own .imm) .imm) (.pr (.pr (.own (.own .imm)) .imm) .imm)))]) tys_ok (zBB.cons N) mixed Tryz.func21 (zBB.ls N) rfl (zBB.b N)
theorem zBB.det (N : Nat) : ConDet (zBB.con N) := det3
def zCU.con (N : Nat) : Con := { modes := [.v, .v, .v], ptrs := [false], fn := fn3 s24 .imm s27 .imm .str .imm (zCU N) (fun r => [⟨s31, (.pr (.pr (.own .imm) .imm) (.pr (.pr (.own (.own .imm)) .imm) .imm)), r⟩]) (fun r => []) }
def zCU.cfg (N : Nat) : Cfg := { ty := tys, keep := [11, 15, 19, 26, 29, 32], flt := [], elm := elm0, live := [], ord := [(6, [0, 1, 3, 4, 2, 6, 5, 7, 8, 9])], con := [((20, [.one]), zCO.con N), ((10, [.one]), zBD.con N), ((11, [.one]), zB8.con N), ((21, [.one, .one, .one]), zBB.con N), ((22, [.one]), zC1.con N), ((23, [.one]), zBS.con N)], loops := [], joins := [] }
theorem zCU.cons (N : Nat) : ConsOk Tryz.prog (zCU.cfg N).con := (consOk_cons (hb20) (zCO.ok N) (zCO.det N) (consOk_cons (hb10) (zBD.ok N) (zBD.det N) (consOk_cons (hb11) (zB8.ok N) (zB8.det N) (consOk_cons (hb21) (zBB.ok N) (zBB.det N) (consOk_cons (hb22) (zC1.ok N) (zC1.det N) (consOk_cons (hb23) (zBS.ok N) (zBS.det N) consOk_nil))))))
theorem zCU.ls (N : Nat) : LoopsOk Tryz.prog (zCU.cfg N) (fnBody Tryz.f6) := loopsL (l := []) (by kernel_rfl) trivial
theorem zCU.b (N : Nat) (x0 : den s24) (x1 : den s27) (x2 : den .str) : body (zCU.cfg N) N Tryz.f6 [.one, .one, .one] [.v, .v, .v] [(false, (.pr (.pr (.own .imm) .imm) (.pr (.pr (.own (.own .imm)) .imm) .imm)))] [⟨s24, .imm, x0⟩, ⟨s27, .imm, x1⟩, ⟨.str, .imm, x2⟩] (fun r i => some (r, i)) = bindO (zCU N x0 x1 x2) fun r => some ([⟨s31, (.pr (.pr (.own .imm) .imm) (.pr (.pr (.own (.own .imm)) .imm) .imm)), r⟩], []) := by
  show _ = bindF _ _
  conv => rhs; simp only [zCU, bindF_ifB, bindF_bindO, bindF_pure, bindF_none, bindF_onSum]
  kernel_rfl
theorem zCU.ok (N : Nat) : ConOk Tryz.prog 6 [.one, .one, .one] (zCU.con N) := ok3 (g := zCU.cfg N) (N := N) (res := [(false, (.pr (.pr (.own .imm) .imm) (.pr (.pr (.own (.own .imm)) .imm) .imm)))]) tys_ok (zCU.cons N) mixed Tryz.func6 (zCU.ls N) rfl (zCU.b N)
theorem zCU.det (N : Nat) : ConDet (zCU.con N) := det3
def zCX.con (N : Nat) : Con := { modes := [.v, .v, .v], ptrs := [false], fn := fn3 s24 .imm s27 .imm .str .imm (zCX N) (fun r => [⟨s31, (.pr (.pr (.own .imm) .imm) (.pr (.pr (.own (.own .imm)) .imm) .imm)), r⟩]) (fun r => []) }
def zCX.cfg (N : Nat) : Cfg := { ty := tys, keep := [13, 17, 21, 27, 31, 33, 42, 51, 56], flt := [], elm := elm0, live := [], ord := [(6, [0, 2, 4, 5, 1, 3, 6, 7, 8]), (11, [0, 1, 2, 3, 5, 6, 7, 8, 10, 11, 12, 13, 14, 15, 16, 17, 4, 9, 18, 19])], con := [((20, [.one]), zCO.con N), ((10, [.one]), zBD.con N), ((11, [.one]), zB8.con N), ((24, [.one]), zAI.con N), ((22, [.one]), zC1.con N), ((23, [.one]), zBS.con N), ((25, [.one, .one]), zAA.con N)], loops := [], joins := [] }
theorem zCX.cons (N : Nat) : ConsOk Tryz.prog (zCX.cfg N).con := (consOk_cons (hb20) (zCO.ok N) (zCO.det N) (consOk_cons (hb10) (zBD.ok N) (zBD.det N) (consOk_cons (hb11) (zB8.ok N) (zB8.det N) (consOk_cons (hb24) (zAI.ok N) (zAI.det N) (consOk_cons (hb22) (zC1.ok N) (zC1.det N) (consOk_cons (hb23) (zBS.ok N) (zBS.det N) (consOk_cons (hb25) (zAA.ok N) (zAA.det N) consOk_nil)))))))
theorem zCX.ls (N : Nat) : LoopsOk Tryz.prog (zCX.cfg N) (fnBody Tryz.f7) := loopsL (l := []) (by kernel_rfl) trivial
theorem zCX.b (N : Nat) (x0 : den s24) (x1 : den s27) (x2 : den .str) : body (zCX.cfg N) N Tryz.f7 [.one, .one, .one] [.v, .v, .v] [(false, (.pr (.pr (.own .imm) .imm) (.pr (.pr (.own (.own .imm)) .imm) .imm)))] [⟨s24, .imm, x0⟩, ⟨s27, .imm, x1⟩, ⟨.str, .imm, x2⟩] (fun r i => some (r, i)) = bindO (zCX N x0 x1 x2) fun r => some ([⟨s31, (.pr (.pr (.own .imm) .imm) (.pr (.pr (.own (.own .imm)) .imm) .imm)), r⟩], []) := by
  show _ = bindF _ _
  conv => rhs; simp only [zCX, bindF_ifB, bindF_bindO, bindF_pure, bindF_none, bindF_onSum]
  kernel_rfl
theorem zCX.ok (N : Nat) : ConOk Tryz.prog 7 [.one, .one, .one] (zCX.con N) := ok3 (g := zCX.cfg N) (N := N) (res := [(false, (.pr (.pr (.own .imm) .imm) (.pr (.pr (.own (.own .imm)) .imm) .imm)))]) tys_ok (zCX.cons N) mixed Tryz.func7 (zCX.ls N) rfl (zCX.b N)
theorem zCX.det (N : Nat) : ConDet (zCX.con N) := det3
def zB3.sk4 : Skel := ⟨.pv s23 :: (.pv s23 :: (dd 3 (.pv (.int .i64) :: (dd 20 [])))), []⟩
def zB3.xs4 : List XS := [⟨.exit 0, [], ⟨dd 26 [], []⟩⟩, ⟨.ret, [4], ⟨dd 4 (.pv .bool :: (dd 21 [])), []⟩⟩]
def zB3.con (N : Nat) : Con := { modes := [.v, .v], ptrs := [false], fn := fn2 s23 .imm s23 .imm (zB3 N) (fun r => [⟨.bool, .imm, r⟩]) (fun r => []) }
def zB3.cfg (N : Nat) : Cfg := { ty := tys, keep := [], flt := [], elm := elm0, live := [(4, [0, 1, 5])], ord := [(6, [0, 1, 2, 3, 4, 5, 6, 7, 8])], con := [], loops := [(4, loopCon N zB3.sk4 zB3.xs4 (fun {R} => zB3.l4 (R := R) N))], joins := [] }
theorem zB3.cons (N : Nat) : ConsOk Tryz.prog (zB3.cfg N).con := consOk_nil
theorem zB3.h4 {R : Type} (N : Nat) (d : zB3.sk4.D) (kn : zB3.sk4.D → Option R) (kx : XD zB3.xs4 → Option R) : roundK (zB3.cfg N) N (nthLoop (fnBody Tryz.f26) 0) zB3.sk4 zB3.xs4 d kn kx = zB3.l4 N d kn kx := by kernel_rfl
theorem zB3.i4 (N : Nat) : LoopsOk Tryz.prog (zB3.cfg N) (nthLoop (fnBody Tryz.f26) 0) := loopsL (l := []) (by kernel_rfl) trivial
theorem zB3.o4 (N : Nat) : LoopOk Tryz.prog (nthLoop (fnBody Tryz.f26) 0) (loopCon N zB3.sk4 zB3.xs4 (fun {R} => zB3.l4 (R := R) N)) := loop_ok (g := zB3.cfg N) tys_ok (zB3.cons N) mixed (zB3.i4 N) (fun d kn kx => zB3.h4 N d kn kx)
theorem zB3.ls (N : Nat) : LoopsOk Tryz.prog (zB3.cfg N) (fnBody Tryz.f26) := loopsL (l := [nthLoop (fnBody Tryz.f26) 0]) (by kernel_rfl) ⟨loopOne (L0 := loopCon N zB3.sk4 zB3.xs4 (fun {R} => zB3.l4 (R := R) N)) (id := 4) (by kernel_rfl) (by kernel_rfl) (zB3.o4 N), trivial⟩
theorem zB3.q4 {R R' : Type} {N n : Nat} {d} {k} {g : R → Option R'} : bindF (loopP (zB3.l4 N) n d k) g = loopP (zB3.l4 N) n d fun e => bindF (k e) g := bindF_loopP (fun d kn kx => by simp only [zB3.l4, bindF_ifB, bindF_bindO, bindF_pure, bindF_none, bindF_onSum]) n d k
theorem zB3.b (N : Nat) (x0 : den s23) (x1 : den s23) : body (zB3.cfg N) N Tryz.f26 [.one, .one] [.v, .v] [(false, .imm)] [⟨s23, .imm, x0⟩, ⟨s23, .imm, x1⟩] (fun r i => some (r, i)) = bindO (zB3 N x0 x1) fun r => some ([⟨.bool, .imm, r⟩], []) := by
  show _ = bindF _ _
  conv => rhs; simp only [zB3, bindF_ifB, bindF_bindO, bindF_pure, bindF_none, bindF_onSum, zB3.q4]
  kernel_rfl
theorem zB3.ok (N : Nat) : ConOk Tryz.prog 26 [.one, .one] (zB3.con N) := ok2 (g := zB3.cfg N) (N := N) (res := [(false, .imm)]) tys_ok (zB3.cons N) mixed Tryz.func26 (zB3.ls N) rfl (zB3.b N)
theorem zB3.det (N : Nat) : ConDet (zB3.con N) := det2
def zCS.con (N : Nat) : Con := { modes := [.v, .v], ptrs := [false], fn := fn2 s24 .imm s24 .imm (zCS N) (fun r => [⟨.bool, .imm, r⟩]) (fun r => []) }
def zCS.cfg (N : Nat) : Cfg := { ty := tys, keep := [9], flt := [], elm := elm0, live := [], ord := [], con := [((26, [.one, .one]), zB3.con N)], loops := [], joins := [] }
theorem zCS.cons (N : Nat) : ConsOk Tryz.prog (zCS.cfg N).con := (consOk_cons (hb26) (zB3.ok N) (zB3.det N) consOk_nil)
theorem zCS.ls (N : Nat) : LoopsOk Tryz.prog (zCS.cfg N) (fnBody Tryz.f8) := loopsL (l := []) (by kernel_rfl) trivial
theorem zCS.b (N : Nat) (x0 : den s24) (x1 : den s24) : body (zCS.cfg N) N Tryz.f8 [.one, .one] [.v, .v] [(false, .imm)] [⟨s24, .imm, x0⟩, ⟨s24, .imm, x1⟩] (fun r i => some (r, i)) = bindO (zCS N x0 x1) fun r => some ([⟨.bool, .imm, r⟩], []) := by
  show _ = bindF _ _
  conv => rhs; simp only [zCS, bindF_ifB, bindF_bindO, bindF_pure, bindF_none, bindF_onSum]
  kernel_rfl
theorem zCS.ok (N : Nat) : ConOk Tryz.prog 8 [.one, .one] (zCS.con N) := ok2 (g := zCS.cfg N) (N := N) (res := [(false, .imm)]) tys_ok (zCS.cons N) mixed Tryz.func8 (zCS.ls N) rfl (zCS.b N)
theorem zCS.det (N : Nat) : ConDet (zCS.con N) := det2
def zB0.sk4 : Skel := ⟨.pv s26 :: (.pv s26 :: (dd 3 (.pv (.int .i64) :: (dd 21 [])))), []⟩
def zB0.xs4 : List XS := [⟨.exit 0, [], ⟨dd 27 [], []⟩⟩, ⟨.ret, [4], ⟨dd 4 (.pv .bool :: (dd 22 [])), []⟩⟩]
def zB0.con (N : Nat) : Con := { modes := [.v, .v], ptrs := [false], fn := fn2 s26 .imm s26 .imm (zB0 N) (fun r => [⟨.bool, .imm, r⟩]) (fun r => []) }
def zB0.cfg (N : Nat) : Cfg := { ty := tys, keep := [25], flt := [], elm := elm0, live := [(4, [0, 1, 5])], ord := [(6, [0, 1, 2, 3, 4, 5, 6, 7, 8, 9])], con := [((26, [.one, .one]), zB3.con N)], loops := [(4, loopCon N zB0.sk4 zB0.xs4 (fun {R} => zB0.l4 (R := R) N))], joins := [] }
theorem zB0.cons (N : Nat) : ConsOk Tryz.prog (zB0.cfg N).con := (consOk_cons (hb26) (zB3.ok N) (zB3.det N) consOk_nil)
theorem zB0.h4 {R : Type} (N : Nat) (d : zB0.sk4.D) (kn : zB0.sk4.D → Option R) (kx : XD zB0.xs4 → Option R) : roundK (zB0.cfg N) N (nthLoop (fnBody Tryz.f27) 0) zB0.sk4 zB0.xs4 d kn kx = zB0.l4 N d kn kx := by kernel_rfl
theorem zB0.i4 (N : Nat) : LoopsOk Tryz.prog (zB0.cfg N) (nthLoop (fnBody Tryz.f27) 0) := loopsL (l := []) (by kernel_rfl) trivial
theorem zB0.o4 (N : Nat) : LoopOk Tryz.prog (nthLoop (fnBody Tryz.f27) 0) (loopCon N zB0.sk4 zB0.xs4 (fun {R} => zB0.l4 (R := R) N)) := loop_ok (g := zB0.cfg N) tys_ok (zB0.cons N) mixed (zB0.i4 N) (fun d kn kx => zB0.h4 N d kn kx)
theorem zB0.ls (N : Nat) : LoopsOk Tryz.prog (zB0.cfg N) (fnBody Tryz.f27) := loopsL (l := [nthLoop (fnBody Tryz.f27) 0]) (by kernel_rfl) ⟨loopOne (L0 := loopCon N zB0.sk4 zB0.xs4 (fun {R} => zB0.l4 (R := R) N)) (id := 4) (by kernel_rfl) (by kernel_rfl) (zB0.o4 N), trivial⟩
theorem zB0.q4 {R R' : Type} {N n : Nat} {d} {k} {g : R → Option R'} : bindF (loopP (zB0.l4 N) n d k) g = loopP (zB0.l4 N) n d fun e => bindF (k e) g := bindF_loopP (fun d kn kx => by simp only [zB0.l4, bindF_ifB, bindF_bindO, bindF_pure, bindF_none, bindF_onSum]) n d k
theorem zB0.b (N : Nat) (x0 : den s26) (x1 : den s26) : body (zB0.cfg N) N Tryz.f27 [.one, .one] [.v, .v] [(false, .imm)] [⟨s26, .imm, x0⟩, ⟨s26, .imm, x1⟩] (fun r i => some (r, i)) = bindO (zB0 N x0 x1) fun r => some ([⟨.bool, .imm, r⟩], []) := by
  show _ = bindF _ _
  conv => rhs; simp only [zB0, bindF_ifB, bindF_bindO, bindF_pure, bindF_none, bindF_onSum, zB0.q4]
  kernel_rfl
theorem zB0.ok (N : Nat) : ConOk Tryz.prog 27 [.one, .one] (zB0.con N) := ok2 (g := zB0.cfg N) (N := N) (res := [(false, .imm)]) tys_ok (zB0.cons N) mixed Tryz.func27 (zB0.ls N) rfl (zB0.b N)
theorem zB0.det (N : Nat) : ConDet (zB0.con N) := det2
def zCL.con (N : Nat) : Con := { modes := [.v, .v], ptrs := [false], fn := fn2 s27 .imm s27 .imm (zCL N) (fun r => [⟨.bool, .imm, r⟩]) (fun r => []) }
def zCL.cfg (N : Nat) : Cfg := { ty := tys, keep := [9], flt := [], elm := elm0, live := [], ord := [], con := [((27, [.one, .one]), zB0.con N)], loops := [], joins := [] }
theorem zCL.cons (N : Nat) : ConsOk Tryz.prog (zCL.cfg N).con := (consOk_cons (hb27) (zB0.ok N) (zB0.det N) consOk_nil)
theorem zCL.ls (N : Nat) : LoopsOk Tryz.prog (zCL.cfg N) (fnBody Tryz.f9) := loopsL (l := []) (by kernel_rfl) trivial
theorem zCL.b (N : Nat) (x0 : den s27) (x1 : den s27) : body (zCL.cfg N) N Tryz.f9 [.one, .one] [.v, .v] [(false, .imm)] [⟨s27, .imm, x0⟩, ⟨s27, .imm, x1⟩] (fun r i => some (r, i)) = bindO (zCL N x0 x1) fun r => some ([⟨.bool, .imm, r⟩], []) := by
  show _ = bindF _ _
  conv => rhs; simp only [zCL, bindF_ifB, bindF_bindO, bindF_pure, bindF_none, bindF_onSum]
  kernel_rfl
theorem zCL.ok (N : Nat) : ConOk Tryz.prog 9 [.one, .one] (zCL.con N) := ok2 (g := zCL.cfg N) (N := N) (res := [(false, .imm)]) tys_ok (zCL.cons N) mixed Tryz.func9 (zCL.ls N) rfl (zCL.b N)
theorem zCL.det (N : Nat) : ConDet (zCL.con N) := det2
def zBP.sk14 : Skel := ⟨dd 5 (.pv .str :: (.ptr 50 [] :: (.ptr 51 [] :: (.ptr 52 [] :: (.ptr 53 [] :: (.pv (.int .i64) :: (.pv .bool :: (dd 122 [])))))))), [⟨50, s31, .imm, true, false⟩, ⟨51, s31, .imm, true, false⟩, ⟨52, s24, .imm, true, false⟩, ⟨53, s27, .imm, true, false⟩]⟩
def zBP.xs14 : List XS := [⟨.exit 0, [7, 8, 9, 113, 114, 115, 118, 119, 120, 123, 124, 125, 126, 129, 130, 131, 132], ⟨dd 7 (.ptr 50 [] :: (.ptr 51 [] :: (.ptr 52 [] :: (dd 124 [])))), [⟨50, s31, .imm, true, false⟩, ⟨51, s24, .imm, true, false⟩, ⟨52, s27, .imm, true, false⟩]⟩⟩, ⟨.ret, [2], ⟨dd 2 (.pv .bool :: (dd 131 [])), []⟩⟩]
def zBP.con (N : Nat) : Con := { modes := [.v], ptrs := [false], fn := fn1 s22 .imm (zBP N) (fun r => [⟨.bool, .imm, r⟩]) (fun r => []) }
def zBP.cfg (N : Nat) : Cfg := { ty := tys, keep := [], flt := [], elm := elm0, live := [(14, [5, 6, 7, 8, 9, 10, 11, 59, 60, 72, 73, 74, 82, 83, 84, 85, 88, 89, 90, 91, 94, 95, 96, 97, 113, 114, 115, 118, 119, 120, 123, 124, 125, 126, 129, 130, 131, 132])], ord := [(15, [6, 0, 1, 2, 3, 4, 5, 7])], con := [((4, [.one]), zC5.con N), ((5, [.one, .one, .one]), zCV.con N), ((6, [.one, .one, .one]), zCU.con N), ((7, [.one, .one, .one]), zCX.con N), ((8, [.one, .one]), zCS.con N), ((9, [.one, .one]), zCL.con N), ((10, [.one]), zBD.con N), ((11, [.one]), zB8.con N)], loops := [(14, loopCon N zBP.sk14 zBP.xs14 (fun {R} => zBP.l14 (R := R) N))], joins := [] }
theorem zBP.cons (N : Nat) : ConsOk Tryz.prog (zBP.cfg N).con := (consOk_cons (hb4) (zC5.ok N) (zC5.det N) (consOk_cons (hb5) (zCV.ok N) (zCV.det N) (consOk_cons (hb6) (zCU.ok N) (zCU.det N) (consOk_cons (hb7) (zCX.ok N) (zCX.det N) (consOk_cons (hb8) (zCS.ok N) (zCS.det N) (consOk_cons (hb9) (zCL.ok N) (zCL.det N) (consOk_cons (hb10) (zBD.ok N) (zBD.det N) (consOk_cons (hb11) (zB8.ok N) (zB8.det N) consOk_nil))))))))
theorem zBP.h14 {R : Type} (N : Nat) (d : zBP.sk14.D) (kn : zBP.sk14.D → Option R) (kx : XD zBP.xs14 → Option R) : roundK (zBP.cfg N) N (nthLoop (fnBody Tryz.f3) 0) zBP.sk14 zBP.xs14 d kn kx = zBP.l14 N d kn kx := by kernel_rfl
theorem zBP.i14 (N : Nat) : LoopsOk Tryz.prog (zBP.cfg N) (nthLoop (fnBody Tryz.f3) 0) := loopsL (l := []) (by kernel_rfl) trivial
theorem zBP.o14 (N : Nat) : LoopOk Tryz.prog (nthLoop (fnBody Tryz.f3) 0) (loopCon N zBP.sk14 zBP.xs14 (fun {R} => zBP.l14 (R := R) N)) := loop_ok (g := zBP.cfg N) tys_ok (zBP.cons N) mixed (zBP.i14 N) (fun d kn kx => zBP.h14 N d kn kx)
theorem zBP.ls (N : Nat) : LoopsOk Tryz.prog (zBP.cfg N) (fnBody Tryz.f3) := loopsL (l := [nthLoop (fnBody Tryz.f3) 0]) (by kernel_rfl) ⟨loopOne (L0 := loopCon N zBP.sk14 zBP.xs14 (fun {R} => zBP.l14 (R := R) N)) (id := 14) (by kernel_rfl) (by kernel_rfl) (zBP.o14 N), trivial⟩
theorem zBP.q14 {R R' : Type} {N n : Nat} {d} {k} {g : R → Option R'} : bindF (loopP (zBP.l14 N) n d k) g = loopP (zBP.l14 N) n d fun e => bindF (k e) g := bindF_loopP (fun d kn kx => by simp only [zBP.l14, bindF_ifB, bindF_bindO, bindF_pure, bindF_none, bindF_onSum]) n d k
theorem zBP.b (N : Nat) (x0 : den s22) : body (zBP.cfg N) N Tryz.f3 [.one] [.v] [(false, .imm)] [⟨s22, .imm, x0⟩] (fun r i => some (r, i)) = bindO (zBP N x0) fun r => some ([⟨.bool, .imm, r⟩], []) := by
  show _ = bindF _ _
  conv => rhs; simp only [zBP, bindF_ifB, bindF_bindO, bindF_pure, bindF_none, bindF_onSum, zBP.q14]
  kernel_rfl
theorem zBP.ok (N : Nat) : ConOk Tryz.prog 3 [.one] (zBP.con N) := ok1 (g := zBP.cfg N) (N := N) (res := [(false, .imm)]) tys_ok (zBP.cons N) mixed Tryz.func3 (zBP.ls N) rfl (zBP.b N)
theorem zBP.det (N : Nat) : ConDet (zBP.con N) := det1
end Go.AE.F
end
