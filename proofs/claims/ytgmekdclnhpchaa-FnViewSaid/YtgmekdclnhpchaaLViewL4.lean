/- The printed functions are what the program comes to: contracts. -/
import Derived.Test.YtgmekdclnhpchaaLViewL3
noncomputable section
namespace Go.AE.F
open Go.AE Go.Proofs
set_option maxRecDepth 100000
def zBM.con (N : Nat) : Con := { modes := [.v, .v], ptrs := [false], fn := fn2 (.int .i64) .imm (.int .i64) .imm (zBM N) (fun r => [⟨s29, (.pr .imm (.pr .imm (.pr (.own .imm) .imm))), r⟩]) (fun r => []) }
def zBM.cfg (N : Nat) : Cfg := { ty := tys, keep := [6, 10], flt := [], elm := elm0, live := [], ord := [], con := [((27, [.one]), zB9.con N), ((33, [.one]), zBA.con N)], loops := [], joins := [] }
theorem zBM.cons (N : Nat) : ConsOk Try.prog (zBM.cfg N).con := (consOk_cons (hb27) (zB9.ok N) (zB9.det N) (consOk_cons (hb33) (zBA.ok N) (zBA.det N) consOk_nil))
theorem zBM.ls (N : Nat) : LoopsOk Try.prog (zBM.cfg N) (fnBody Try.f29) := loopsL (l := []) (by kernel_rfl) trivial
theorem zBM.b (N : Nat) (x0 : den (.int .i64)) (x1 : den (.int .i64)) : body (zBM.cfg N) N Try.f29 [.one, .one] [.v, .v] [(false, (.pr .imm (.pr .imm (.pr (.own .imm) .imm))))] [⟨(.int .i64), .imm, x0⟩, ⟨(.int .i64), .imm, x1⟩] (fun r i => some (r, i)) = bindO (zBM N x0 x1) fun r => some ([⟨s29, (.pr .imm (.pr .imm (.pr (.own .imm) .imm))), r⟩], []) := by
  show _ = bindF _ _
  conv => rhs; simp only [zBM, bindF_ifB, bindF_bindO, bindF_pure, bindF_none, bindF_onSum]
  kernel_rfl
theorem zBM.ok (N : Nat) : ConOk Try.prog 29 [.one, .one] (zBM.con N) := ok2 (g := zBM.cfg N) (N := N) (res := [(false, (.pr .imm (.pr .imm (.pr (.own .imm) .imm))))]) tys_ok (zBM.cons N) mixed Try.func29 (zBM.ls N) rfl (zBM.b N)
theorem zBM.det (N : Nat) : ConDet (zBM.con N) := det2
def zAP.con (N : Nat) : Con := { modes := [.rd], ptrs := [false], fn := fn1 s61 .imm (zAP N) (fun r => [⟨.bool, .imm, r⟩]) (fun r => []) }
def zAP.cfg (N : Nat) : Cfg := { ty := tys, keep := [16], flt := [], elm := elm0, live := [], ord := [], con := [((50, [.one]), zAF.con N)], loops := [], joins := [] }
theorem zAP.cons (N : Nat) : ConsOk Try.prog (zAP.cfg N).con := (consOk_cons (hb50) (zAF.ok N) (zAF.det N) consOk_nil)
theorem zAP.ls (N : Nat) : LoopsOk Try.prog (zAP.cfg N) (fnBody Try.f31) := loopsL (l := []) (by kernel_rfl) trivial
theorem zAP.b (N : Nat) (x0 : den s61) : body (zAP.cfg N) N Try.f31 [.one] [.rd] [(false, .imm)] [⟨s61, .imm, x0⟩] (fun r i => some (r, i)) = bindO (zAP N x0) fun r => some ([⟨.bool, .imm, r⟩], []) := by
  show _ = bindF _ _
  conv => rhs; simp only [zAP, bindF_ifB, bindF_bindO, bindF_pure, bindF_none, bindF_onSum]
  kernel_rfl
theorem zAP.ok (N : Nat) : ConOk Try.prog 31 [.one] (zAP.con N) := ok1 (g := zAP.cfg N) (N := N) (res := [(false, .imm)]) tys_ok (zAP.cons N) mixed Try.func31 (zAP.ls N) rfl (zAP.b N)
theorem zAP.det (N : Nat) : ConDet (zAP.con N) := det1
def zAJ.sk9 : Skel := ⟨dd 3 (.pv (.int .i64) :: (.pv (.int .i64) :: (dd 5 (.ptr 50 [] :: (dd 1 (.ptr 51 [] :: (.ptr 52 [] :: (.pv (.int .i64) :: (dd 45 (.pv s67 :: (.pv (.int .i64) :: (.pv (.int .i64) :: (dd 53 []))))))))))))), [⟨50, s31, (.pr (.pr .imm (.pr .imm (.pr (.own (.pr (.own .imm) .imm)) .imm))) .imm), true, false⟩, ⟨51, s29, (.pr .imm (.pr .imm (.pr (.own .imm) .imm))), true, false⟩, ⟨52, s35, .imm, true, false⟩]⟩
def zAJ.xs9 : List XS := [⟨.exit 1, [10, 12, 13, 14], ⟨dd 10 (.ptr 50 [] :: (dd 1 (.ptr 51 [] :: (.ptr 52 [] :: (.pv (.int .i64) :: (dd 101 [])))))), [⟨50, s31, (.pr (.pr .imm (.pr .imm (.pr (.own (.pr (.own .imm) .imm)) .imm))) .imm), true, false⟩, ⟨51, s29, (.pr .imm (.pr .imm (.pr (.own .imm) .imm))), true, false⟩, ⟨52, s35, .imm, true, false⟩]⟩⟩]
def zAJ.con (N : Nat) : Con := { modes := [.v, .v, .v, .v, .v], ptrs := [false], fn := fn5 s23 .imm s24 .imm .bool .imm (.int .i64) .imm (.int .i64) .imm (zAJ N) (fun r => [⟨s31, (.pr (.pr .imm (.pr .imm (.pr (.own .imm) .imm))) .imm), r⟩]) (fun r => []) }
def zAJ.cfg (N : Nat) : Cfg := { ty := tys, keep := [21, 27, 31, 39, 42, 73, 94], flt := [], elm := elm0, live := [(9, [3, 4, 10, 12, 13, 14, 60, 61, 62])], ord := [(6, [8, 0, 1, 2, 3, 4, 5, 6, 7, 9]), (17, [0, 1, 2, 3, 4, 5, 6, 7, 8, 9])], con := [((25, [.one]), zBQ.con N), ((26, [.one, .one, .one]), zB2.con N), ((27, [.one]), zB9.con N), ((28, [.one, .one, .one, .one]), zAG.con N), ((29, [.one, .one]), zBM.con N), ((30, [.one, .one, .one]), zAI.con N), ((31, [.one]), zAP.con N)], loops := [(9, loopCon N zAJ.sk9 zAJ.xs9 (fun {R} => zAJ.l9 (R := R) N))], joins := [(16, [⟨.normal, [3, 4, 10, 12, 13, 14, 60, 61, 62], ⟨dd 3 (.pv (.int .i64) :: (.pv (.int .i64) :: (dd 5 (.ptr 50 [] :: (dd 1 (.ptr 51 [] :: (.ptr 52 [] :: (.pv (.int .i64) :: (dd 45 (.pv s67 :: (.pv (.int .i64) :: (.pv (.int .i64) :: (dd 53 []))))))))))))), [⟨50, s31, (.pr (.pr .imm (.pr .imm (.pr (.own (.pr (.own .imm) .imm)) .imm))) .imm), true, false⟩, ⟨51, s29, (.pr .imm (.pr .imm (.pr (.own .imm) .imm))), true, false⟩, ⟨52, s35, .imm, true, false⟩]⟩⟩])] }
theorem zAJ.cons (N : Nat) : ConsOk Try.prog (zAJ.cfg N).con := (consOk_cons (hb25) (zBQ.ok N) (zBQ.det N) (consOk_cons (hb26) (zB2.ok N) (zB2.det N) (consOk_cons (hb27) (zB9.ok N) (zB9.det N) (consOk_cons (hb28) (zAG.ok N) (zAG.det N) (consOk_cons (hb29) (zBM.ok N) (zBM.det N) (consOk_cons (hb30) (zAI.ok N) (zAI.det N) (consOk_cons (hb31) (zAP.ok N) (zAP.det N) consOk_nil)))))))
theorem zAJ.h9 {R : Type} (N : Nat) (d : zAJ.sk9.D) (kn : zAJ.sk9.D → Option R) (kx : XD zAJ.xs9 → Option R) : roundK (zAJ.cfg N) N (nthLoop (fnBody Try.f6) 0) zAJ.sk9 zAJ.xs9 d kn kx = zAJ.l9 N d kn kx := by kernel_rfl
theorem zAJ.i9 (N : Nat) : LoopsOk Try.prog (zAJ.cfg N) (nthLoop (fnBody Try.f6) 0) := loopsL (l := []) (by kernel_rfl) trivial
theorem zAJ.o9 (N : Nat) : LoopOk Try.prog (nthLoop (fnBody Try.f6) 0) (loopCon N zAJ.sk9 zAJ.xs9 (fun {R} => zAJ.l9 (R := R) N)) := loop_ok (g := zAJ.cfg N) tys_ok (zAJ.cons N) mixed (zAJ.i9 N) (fun d kn kx => zAJ.h9 N d kn kx)
theorem zAJ.ls (N : Nat) : LoopsOk Try.prog (zAJ.cfg N) (fnBody Try.f6) := loopsL (l := [nthLoop (fnBody Try.f6) 0]) (by kernel_rfl) ⟨loopOne (L0 := loopCon N zAJ.sk9 zAJ.xs9 (fun {R} => zAJ.l9 (R := R) N)) (id := 9) (by kernel_rfl) (by kernel_rfl) (zAJ.o9 N), trivial⟩
theorem zAJ.q9 {R R' : Type} {N n : Nat} {d} {k} {g : R → Option R'} : bindF (loopP (zAJ.l9 N) n d k) g = loopP (zAJ.l9 N) n d fun e => bindF (k e) g := bindF_loopP (fun d kn kx => by simp only [zAJ.l9, bindF_ifB, bindF_bindO, bindF_pure, bindF_none, bindF_onSum]) n d k
theorem zAJ.b (N : Nat) (x0 : den s23) (x1 : den s24) (x2 : den .bool) (x3 : den (.int .i64)) (x4 : den (.int .i64)) : body (zAJ.cfg N) N Try.f6 [.one, .one, .one, .one, .one] [.v, .v, .v, .v, .v] [(false, (.pr (.pr .imm (.pr .imm (.pr (.own .imm) .imm))) .imm))] [⟨s23, .imm, x0⟩, ⟨s24, .imm, x1⟩, ⟨.bool, .imm, x2⟩, ⟨(.int .i64), .imm, x3⟩, ⟨(.int .i64), .imm, x4⟩] (fun r i => some (r, i)) = bindO (zAJ N x0 x1 x2 x3 x4) fun r => some ([⟨s31, (.pr (.pr .imm (.pr .imm (.pr (.own .imm) .imm))) .imm), r⟩], []) := by
  show _ = bindF _ _
  conv => rhs; simp only [zAJ, bindF_ifB, bindF_bindO, bindF_pure, bindF_none, bindF_onSum, zAJ.q9]
  kernel_rfl
theorem zAJ.ok (N : Nat) : ConOk Try.prog 6 [.one, .one, .one, .one, .one] (zAJ.con N) := ok5 (g := zAJ.cfg N) (N := N) (res := [(false, (.pr (.pr .imm (.pr .imm (.pr (.own .imm) .imm))) .imm))]) tys_ok (zAJ.cons N) mixed Try.func6 (zAJ.ls N) rfl (zAJ.b N)
theorem zAJ.det (N : Nat) : ConDet (zAJ.con N) := det5
def zBF.con (N : Nat) : Con := { modes := [.v, .v, .v, .v], ptrs := [false], fn := fn4 s23 .imm s24 .imm (.int .i64) .imm (.int .i64) .imm (zBF N) (fun r => [⟨s35, .imm, r⟩]) (fun r => []) }
def zBF.cfg (N : Nat) : Cfg := { ty := tys, keep := [12, 16, 23], flt := [], elm := elm0, live := [], ord := [], con := [((26, [.one, .one, .one]), zB2.con N), ((32, [.one, .one]), zAT.con N), ((28, [.one, .one, .one, .one]), zAG.con N)], loops := [], joins := [] }
theorem zBF.cons (N : Nat) : ConsOk Try.prog (zBF.cfg N).con := (consOk_cons (hb26) (zB2.ok N) (zB2.det N) (consOk_cons (hb32) (zAT.ok N) (zAT.det N) (consOk_cons (hb28) (zAG.ok N) (zAG.det N) consOk_nil)))
theorem zBF.ls (N : Nat) : LoopsOk Try.prog (zBF.cfg N) (fnBody Try.f8) := loopsL (l := []) (by kernel_rfl) trivial
theorem zBF.b (N : Nat) (x0 : den s23) (x1 : den s24) (x2 : den (.int .i64)) (x3 : den (.int .i64)) : body (zBF.cfg N) N Try.f8 [.one, .one, .one, .one] [.v, .v, .v, .v] [(false, .imm)] [⟨s23, .imm, x0⟩, ⟨s24, .imm, x1⟩, ⟨(.int .i64), .imm, x2⟩, ⟨(.int .i64), .imm, x3⟩] (fun r i => some (r, i)) = bindO (zBF N x0 x1 x2 x3) fun r => some ([⟨s35, .imm, r⟩], []) := by
  show _ = bindF _ _
  conv => rhs; simp only [zBF, bindF_ifB, bindF_bindO, bindF_pure, bindF_none, bindF_onSum]
  kernel_rfl
theorem zBF.ok (N : Nat) : ConOk Try.prog 8 [.one, .one, .one, .one] (zBF.con N) := ok4 (g := zBF.cfg N) (N := N) (res := [(false, .imm)]) tys_ok (zBF.cons N) mixed Try.func8 (zBF.ls N) rfl (zBF.b N)
theorem zBF.det (N : Nat) : ConDet (zBF.con N) := det4
def zAK.con (N : Nat) : Con := { modes := [.v], ptrs := [false], fn := fn1 s28 .imm (zAK N) (fun r => [⟨(.int .i64), .imm, r⟩]) (fun r => []) }
def zAK.cfg (N : Nat) : Cfg := { ty := tys, keep := [], flt := [], elm := elm0, live := [], ord := [], con := [], loops := [], joins := [] }
theorem zAK.cons (N : Nat) : ConsOk Try.prog (zAK.cfg N).con := consOk_nil
theorem zAK.ls (N : Nat) : LoopsOk Try.prog (zAK.cfg N) (fnBody Try.f34) := loopsL (l := []) (by kernel_rfl) trivial
theorem zAK.b (N : Nat) (x0 : den s28) : body (zAK.cfg N) N Try.f34 [.one] [.v] [(false, .imm)] [⟨s28, .imm, x0⟩] (fun r i => some (r, i)) = bindO (zAK N x0) fun r => some ([⟨(.int .i64), .imm, r⟩], []) := by
  show _ = bindF _ _
  conv => rhs; simp only [zAK, bindF_ifB, bindF_bindO, bindF_pure, bindF_none, bindF_onSum]
  kernel_rfl
theorem zAK.ok (N : Nat) : ConOk Try.prog 34 [.one] (zAK.con N) := ok1 (g := zAK.cfg N) (N := N) (res := [(false, .imm)]) tys_ok (zAK.cons N) mixed Try.func34 (zAK.ls N) rfl (zAK.b N)
theorem zAK.det (N : Nat) : ConDet (zAK.con N) := det1
def zAD.sk2 : Skel := ⟨dd 1 (.ptr 50 [] :: (dd 4 (.pv s23 :: (.pv (.int .i64) :: (.pv (.int .i64) :: (dd 29 [])))))), [⟨50, s61, .imm, true, false⟩]⟩
def zAD.xs2 : List XS := [⟨.exit 0, [1], ⟨dd 1 (.ptr 50 [] :: (dd 36 [])), [⟨50, s61, .imm, true, false⟩]⟩⟩, ⟨.ret, [2], ⟨dd 2 (.pv .bool :: (dd 35 [])), []⟩⟩]
def zAD.con (N : Nat) : Con := { modes := [.v], ptrs := [false], fn := fn1 s61 .imm (zAD N) (fun r => [⟨.bool, .imm, r⟩]) (fun r => []) }
def zAD.cfg (N : Nat) : Cfg := { ty := tys, keep := [14, 18, 24, 36], flt := [], elm := elm0, live := [(2, [1, 6, 7, 8])], ord := [], con := [((52, [.one]), zB8.con N), ((53, [.one]), zAZ.con N), ((50, [.one]), zAF.con N), ((30, [.one, .one, .one]), zAI.con N)], loops := [(2, loopCon N zAD.sk2 zAD.xs2 (fun {R} => zAD.l2 (R := R) N))], joins := [] }
theorem zAD.cons (N : Nat) : ConsOk Try.prog (zAD.cfg N).con := (consOk_cons (hb52) (zB8.ok N) (zB8.det N) (consOk_cons (hb53) (zAZ.ok N) (zAZ.det N) (consOk_cons (hb50) (zAF.ok N) (zAF.det N) (consOk_cons (hb30) (zAI.ok N) (zAI.det N) consOk_nil))))
theorem zAD.h2 {R : Type} (N : Nat) (d : zAD.sk2.D) (kn : zAD.sk2.D → Option R) (kx : XD zAD.xs2 → Option R) : roundK (zAD.cfg N) N (nthLoop (fnBody Try.f35) 0) zAD.sk2 zAD.xs2 d kn kx = zAD.l2 N d kn kx := by kernel_rfl
theorem zAD.i2 (N : Nat) : LoopsOk Try.prog (zAD.cfg N) (nthLoop (fnBody Try.f35) 0) := loopsL (l := []) (by kernel_rfl) trivial
theorem zAD.o2 (N : Nat) : LoopOk Try.prog (nthLoop (fnBody Try.f35) 0) (loopCon N zAD.sk2 zAD.xs2 (fun {R} => zAD.l2 (R := R) N)) := loop_ok (g := zAD.cfg N) tys_ok (zAD.cons N) mixed (zAD.i2 N) (fun d kn kx => zAD.h2 N d kn kx)
theorem zAD.ls (N : Nat) : LoopsOk Try.prog (zAD.cfg N) (fnBody Try.f35) := loopsL (l := [nthLoop (fnBody Try.f35) 0]) (by kernel_rfl) ⟨loopOne (L0 := loopCon N zAD.sk2 zAD.xs2 (fun {R} => zAD.l2 (R := R) N)) (id := 2) (by kernel_rfl) (by kernel_rfl) (zAD.o2 N), trivial⟩
theorem zAD.q2 {R R' : Type} {N n : Nat} {d} {k} {g : R → Option R'} : bindF (loopP (zAD.l2 N) n d k) g = loopP (zAD.l2 N) n d fun e => bindF (k e) g := bindF_loopP (fun d kn kx => by simp only [zAD.l2, bindF_ifB, bindF_bindO, bindF_pure, bindF_none, bindF_onSum]) n d k
theorem zAD.b (N : Nat) (x0 : den s61) : body (zAD.cfg N) N Try.f35 [.one] [.v] [(false, .imm)] [⟨s61, .imm, x0⟩] (fun r i => some (r, i)) = bindO (zAD N x0) fun r => some ([⟨.bool, .imm, r⟩], []) := by
  show _ = bindF _ _
  conv => rhs; simp only [zAD, bindF_ifB, bindF_bindO, bindF_pure, bindF_none, bindF_onSum, zAD.q2]
  kernel_rfl
theorem zAD.ok (N : Nat) : ConOk Try.prog 35 [.one] (zAD.con N) := ok1 (g := zAD.cfg N) (N := N) (res := [(false, .imm)]) tys_ok (zAD.cons N) mixed Try.func35 (zAD.ls N) rfl (zAD.b N)
theorem zAD.det (N : Nat) : ConDet (zAD.con N) := det1
def zAQ.con (N : Nat) : Con := { modes := [.rd], ptrs := [false], fn := fn1 s61 .imm (zAQ N) (fun r => [⟨.bool, .imm, r⟩]) (fun r => []) }
def zAQ.cfg (N : Nat) : Cfg := { ty := tys, keep := [], flt := [], elm := elm0, live := [], ord := [], con := [], loops := [], joins := [] }
theorem zAQ.cons (N : Nat) : ConsOk Try.prog (zAQ.cfg N).con := consOk_nil
theorem zAQ.ls (N : Nat) : LoopsOk Try.prog (zAQ.cfg N) (fnBody Try.f36) := loopsL (l := []) (by kernel_rfl) trivial
theorem zAQ.b (N : Nat) (x0 : den s61) : body (zAQ.cfg N) N Try.f36 [.one] [.rd] [(false, .imm)] [⟨s61, .imm, x0⟩] (fun r i => some (r, i)) = bindO (zAQ N x0) fun r => some ([⟨.bool, .imm, r⟩], []) := by
  show _ = bindF _ _
  conv => rhs; simp only [zAQ, bindF_ifB, bindF_bindO, bindF_pure, bindF_none, bindF_onSum]
  kernel_rfl
theorem zAQ.ok (N : Nat) : ConOk Try.prog 36 [.one] (zAQ.con N) := ok1 (g := zAQ.cfg N) (N := N) (res := [(false, .imm)]) tys_ok (zAQ.cons N) mixed Try.func36 (zAQ.ls N) rfl (zAQ.b N)
theorem zAQ.det (N : Nat) : ConDet (zAQ.con N) := det1
def zAA.sk4 : Skel := ⟨dd 1 (.ptr 50 [] :: (dd 61 (.pv s28 :: (.pv (.int .i64) :: (.pv (.int .i64) :: (dd 37 [])))))), [⟨50, s29, .imm, true, false⟩]⟩
def zAA.xs4 : List XS := [⟨.exit 0, [], ⟨dd 103 [], []⟩⟩, ⟨.ret, [2], ⟨dd 2 (.pv .bool :: (dd 100 [])), []⟩⟩]
def zAA.con (N : Nat) : Con := { modes := [.v], ptrs := [false], fn := fn1 s29 .imm (zAA N) (fun r => [⟨.bool, .imm, r⟩]) (fun r => []) }
def zAA.cfg (N : Nat) : Cfg := { ty := tys, keep := [7, 12, 18, 32, 41, 59, 71, 73, 87], flt := [], elm := elm0, live := [(4, [1, 63, 64, 65])], ord := [(1, [0, 1, 2, 3, 4, 5, 6, 7, 8, 9, 10, 11, 12, 14, 15, 16, 17, 18, 13, 19, 20, 21, 22, 23, 24, 25, 26, 27, 28, 29, 30, 31, 32, 33, 34, 35, 36, 37, 38, 39, 40, 41, 42, 43, 44, 45, 46, 47, 48, 49, 50, 51, 52, 53, 54, 55, 56]), (9, [0, 1, 2, 3, 4, 5, 6, 7, 8, 9, 10, 11, 12, 13, 14, 15, 16, 17, 18, 19, 20, 21, 22, 23, 24, 25, 26])], con := [((27, [.one]), zB9.con N), ((33, [.one]), zBA.con N), ((34, [.one]), zAK.con N), ((30, [.one, .one, .one]), zAI.con N), ((35, [.one]), zAD.con N), ((31, [.one]), zAP.con N), ((36, [.one]), zAQ.con N)], loops := [(4, loopCon N zAA.sk4 zAA.xs4 (fun {R} => zAA.l4 (R := R) N))], joins := [(11, [⟨.normal, [1, 63, 64, 65], ⟨dd 1 (.ptr 50 [] :: (dd 61 (.pv s28 :: (.pv (.int .i64) :: (.pv (.int .i64) :: (dd 37 [])))))), [⟨50, s29, .imm, true, false⟩]⟩⟩, ⟨.ret, [2], ⟨dd 2 (.pv .bool :: (dd 100 [])), []⟩⟩])] }
theorem zAA.cons (N : Nat) : ConsOk Try.prog (zAA.cfg N).con := (consOk_cons (hb27) (zB9.ok N) (zB9.det N) (consOk_cons (hb33) (zBA.ok N) (zBA.det N) (consOk_cons (hb34) (zAK.ok N) (zAK.det N) (consOk_cons (hb30) (zAI.ok N) (zAI.det N) (consOk_cons (hb35) (zAD.ok N) (zAD.det N) (consOk_cons (hb31) (zAP.ok N) (zAP.det N) (consOk_cons (hb36) (zAQ.ok N) (zAQ.det N) consOk_nil)))))))
theorem zAA.h4 {R : Type} (N : Nat) (d : zAA.sk4.D) (kn : zAA.sk4.D → Option R) (kx : XD zAA.xs4 → Option R) : roundK (zAA.cfg N) N (nthLoop (fnBody Try.f9) 0) zAA.sk4 zAA.xs4 d kn kx = zAA.l4 N d kn kx := by kernel_rfl
theorem zAA.i4 (N : Nat) : LoopsOk Try.prog (zAA.cfg N) (nthLoop (fnBody Try.f9) 0) := loopsL (l := []) (by kernel_rfl) trivial
theorem zAA.o4 (N : Nat) : LoopOk Try.prog (nthLoop (fnBody Try.f9) 0) (loopCon N zAA.sk4 zAA.xs4 (fun {R} => zAA.l4 (R := R) N)) := loop_ok (g := zAA.cfg N) tys_ok (zAA.cons N) mixed (zAA.i4 N) (fun d kn kx => zAA.h4 N d kn kx)
theorem zAA.ls (N : Nat) : LoopsOk Try.prog (zAA.cfg N) (fnBody Try.f9) := loopsL (l := [nthLoop (fnBody Try.f9) 0]) (by kernel_rfl) ⟨loopOne (L0 := loopCon N zAA.sk4 zAA.xs4 (fun {R} => zAA.l4 (R := R) N)) (id := 4) (by kernel_rfl) (by kernel_rfl) (zAA.o4 N), trivial⟩
theorem zAA.q4 {R R' : Type} {N n : Nat} {d} {k} {g : R → Option R'} : bindF (loopP (zAA.l4 N) n d k) g = loopP (zAA.l4 N) n d fun e => bindF (k e) g := bindF_loopP (fun d kn kx => by simp only [zAA.l4, bindF_ifB, bindF_bindO, bindF_pure, bindF_none, bindF_onSum]) n d k
theorem zAA.b (N : Nat) (x0 : den s29) : body (zAA.cfg N) N Try.f9 [.one] [.v] [(false, .imm)] [⟨s29, .imm, x0⟩] (fun r i => some (r, i)) = bindO (zAA N x0) fun r => some ([⟨.bool, .imm, r⟩], []) := by
  show _ = bindF _ _
  conv => rhs; simp only [zAA, bindF_ifB, bindF_bindO, bindF_pure, bindF_none, bindF_onSum, zAA.q4]
  kernel_rfl
theorem zAA.ok (N : Nat) : ConOk Try.prog 9 [.one] (zAA.con N) := ok1 (g := zAA.cfg N) (N := N) (res := [(false, .imm)]) tys_ok (zAA.cons N) mixed Try.func9 (zAA.ls N) rfl (zAA.b N)
theorem zAA.det (N : Nat) : ConDet (zAA.con N) := det1
def zAM.con (N : Nat) : Con := { modes := [.rd, .v], ptrs := [false], fn := fn2 s29 .imm (.int .i64) .imm (zAM N) (fun r => [⟨.bool, .imm, r⟩]) (fun r => []) }
def zAM.cfg (N : Nat) : Cfg := { ty := tys, keep := [20], flt := [], elm := elm0, live := [], ord := [], con := [((31, [.one]), zAP.con N)], loops := [], joins := [] }
theorem zAM.cons (N : Nat) : ConsOk Try.prog (zAM.cfg N).con := (consOk_cons (hb31) (zAP.ok N) (zAP.det N) consOk_nil)
theorem zAM.ls (N : Nat) : LoopsOk Try.prog (zAM.cfg N) (fnBody Try.f37) := loopsL (l := []) (by kernel_rfl) trivial
theorem zAM.b (N : Nat) (x0 : den s29) (x1 : den (.int .i64)) : body (zAM.cfg N) N Try.f37 [.one, .one] [.rd, .v] [(false, .imm)] [⟨s29, .imm, x0⟩, ⟨(.int .i64), .imm, x1⟩] (fun r i => some (r, i)) = bindO (zAM N x0 x1) fun r => some ([⟨.bool, .imm, r⟩], []) := by
  show _ = bindF _ _
  conv => rhs; simp only [zAM, bindF_ifB, bindF_bindO, bindF_pure, bindF_none, bindF_onSum]
  kernel_rfl
theorem zAM.ok (N : Nat) : ConOk Try.prog 37 [.one, .one] (zAM.con N) := ok2 (g := zAM.cfg N) (N := N) (res := [(false, .imm)]) tys_ok (zAM.cons N) mixed Try.func37 (zAM.ls N) rfl (zAM.b N)
theorem zAM.det (N : Nat) : ConDet (zAM.con N) := det2
def zAC.sk5 : Skel := ⟨dd 1 (.ptr 50 [] :: (dd 1 (.pv .bool :: (dd 16 (.pv (.int .i64) :: (.pv (.int .i64) :: (dd 26 []))))))), [⟨50, s29, .imm, true, false⟩]⟩
def zAC.xs5 : List XS := [⟨.exit 0, [], ⟨dd 48 [], []⟩⟩, ⟨.ret, [2], ⟨dd 2 (.pv .bool :: (dd 45 [])), []⟩⟩]
def zAC.con (N : Nat) : Con := { modes := [.v], ptrs := [false], fn := fn1 s29 .imm (zAC N) (fun r => [⟨.bool, .imm, r⟩]) (fun r => []) }
def zAC.cfg (N : Nat) : Cfg := { ty := tys, keep := [7, 20, 35, 38], flt := [], elm := elm0, live := [(5, [1, 3, 20, 21])], ord := [], con := [((9, [.one]), zAA.con N), ((34, [.one]), zAK.con N), ((37, [.one, .one]), zAM.con N), ((36, [.one]), zAQ.con N)], loops := [(5, loopCon N zAC.sk5 zAC.xs5 (fun {R} => zAC.l5 (R := R) N))], joins := [(17, [⟨.normal, [1, 3, 20, 21], ⟨dd 1 (.ptr 50 [] :: (dd 1 (.pv .bool :: (dd 16 (.pv (.int .i64) :: (.pv (.int .i64) :: (dd 26 []))))))), [⟨50, s29, .imm, true, false⟩]⟩⟩, ⟨.ret, [2], ⟨dd 2 (.pv .bool :: (dd 45 [])), []⟩⟩])] }
theorem zAC.cons (N : Nat) : ConsOk Try.prog (zAC.cfg N).con := (consOk_cons (hb9) (zAA.ok N) (zAA.det N) (consOk_cons (hb34) (zAK.ok N) (zAK.det N) (consOk_cons (hb37) (zAM.ok N) (zAM.det N) (consOk_cons (hb36) (zAQ.ok N) (zAQ.det N) consOk_nil))))
theorem zAC.h5 {R : Type} (N : Nat) (d : zAC.sk5.D) (kn : zAC.sk5.D → Option R) (kx : XD zAC.xs5 → Option R) : roundK (zAC.cfg N) N (nthLoop (fnBody Try.f10) 0) zAC.sk5 zAC.xs5 d kn kx = zAC.l5 N d kn kx := by kernel_rfl
theorem zAC.i5 (N : Nat) : LoopsOk Try.prog (zAC.cfg N) (nthLoop (fnBody Try.f10) 0) := loopsL (l := []) (by kernel_rfl) trivial
theorem zAC.o5 (N : Nat) : LoopOk Try.prog (nthLoop (fnBody Try.f10) 0) (loopCon N zAC.sk5 zAC.xs5 (fun {R} => zAC.l5 (R := R) N)) := loop_ok (g := zAC.cfg N) tys_ok (zAC.cons N) mixed (zAC.i5 N) (fun d kn kx => zAC.h5 N d kn kx)
theorem zAC.ls (N : Nat) : LoopsOk Try.prog (zAC.cfg N) (fnBody Try.f10) := loopsL (l := [nthLoop (fnBody Try.f10) 0]) (by kernel_rfl) ⟨loopOne (L0 := loopCon N zAC.sk5 zAC.xs5 (fun {R} => zAC.l5 (R := R) N)) (id := 5) (by kernel_rfl) (by kernel_rfl) (zAC.o5 N), trivial⟩
theorem zAC.q5 {R R' : Type} {N n : Nat} {d} {k} {g : R → Option R'} : bindF (loopP (zAC.l5 N) n d k) g = loopP (zAC.l5 N) n d fun e => bindF (k e) g := bindF_loopP (fun d kn kx => by simp only [zAC.l5, bindF_ifB, bindF_bindO, bindF_pure, bindF_none, bindF_onSum]) n d k
theorem zAC.b (N : Nat) (x0 : den s29) : body (zAC.cfg N) N Try.f10 [.one] [.v] [(false, .imm)] [⟨s29, .imm, x0⟩] (fun r i => some (r, i)) = bindO (zAC N x0) fun r => some ([⟨.bool, .imm, r⟩], []) := by
  show _ = bindF _ _
  conv => rhs; simp only [zAC, bindF_ifB, bindF_bindO, bindF_pure, bindF_none, bindF_onSum, zAC.q5]
  kernel_rfl
theorem zAC.ok (N : Nat) : ConOk Try.prog 10 [.one] (zAC.con N) := ok1 (g := zAC.cfg N) (N := N) (res := [(false, .imm)]) tys_ok (zAC.cons N) mixed Try.func10 (zAC.ls N) rfl (zAC.b N)
theorem zAC.det (N : Nat) : ConDet (zAC.con N) := det1
def zBL.con (N : Nat) : Con := { modes := [.v, .v, .v], ptrs := [false], fn := fn3 s23 .imm s24 .imm (.int .i64) .imm (zBL N) (fun r => [⟨(.int .i64), .imm, r⟩]) (fun r => []) }
def zBL.cfg (N : Nat) : Cfg := { ty := tys, keep := [10, 15, 16], flt := [], elm := elm0, live := [], ord := [], con := [((26, [.one, .one, .one]), zB2.con N), ((28, [.one, .one, .one, .one]), zAG.con N), ((38, [.one]), zAS.con N)], loops := [], joins := [] }
theorem zBL.cons (N : Nat) : ConsOk Try.prog (zBL.cfg N).con := (consOk_cons (hb26) (zB2.ok N) (zB2.det N) (consOk_cons (hb28) (zAG.ok N) (zAG.det N) (consOk_cons (hb38) (zAS.ok N) (zAS.det N) consOk_nil)))
theorem zBL.ls (N : Nat) : LoopsOk Try.prog (zBL.cfg N) (fnBody Try.f11) := loopsL (l := []) (by kernel_rfl) trivial
theorem zBL.b (N : Nat) (x0 : den s23) (x1 : den s24) (x2 : den (.int .i64)) : body (zBL.cfg N) N Try.f11 [.one, .one, .one] [.v, .v, .v] [(false, .imm)] [⟨s23, .imm, x0⟩, ⟨s24, .imm, x1⟩, ⟨(.int .i64), .imm, x2⟩] (fun r i => some (r, i)) = bindO (zBL N x0 x1 x2) fun r => some ([⟨(.int .i64), .imm, r⟩], []) := by
  show _ = bindF _ _
  conv => rhs; simp only [zBL, bindF_ifB, bindF_bindO, bindF_pure, bindF_none, bindF_onSum]
  kernel_rfl
theorem zBL.ok (N : Nat) : ConOk Try.prog 11 [.one, .one, .one] (zBL.con N) := ok3 (g := zBL.cfg N) (N := N) (res := [(false, .imm)]) tys_ok (zBL.cons N) mixed Try.func11 (zBL.ls N) rfl (zBL.b N)
theorem zBL.det (N : Nat) : ConDet (zBL.con N) := det3
def zA2.sk4 : Skel := ⟨.pv s23 :: (.pv s23 :: (dd 10 (.pv (.int .i64) :: (.pv (.int .i64) :: (dd 12 []))))), []⟩
def zA2.xs4 : List XS := [⟨.exit 0, [], ⟨dd 26 [], []⟩⟩, ⟨.ret, [4], ⟨dd 4 (.pv .bool :: (dd 21 [])), []⟩⟩]
def zA2.con (N : Nat) : Con := { modes := [.v, .v], ptrs := [false], fn := fn2 s23 .imm s23 .imm (zA2 N) (fun r => [⟨.bool, .imm, r⟩]) (fun r => []) }
def zA2.cfg (N : Nat) : Cfg := { ty := tys, keep := [], flt := [], elm := elm0, live := [(4, [0, 1, 12, 13])], ord := [(6, [0, 1, 2, 3, 4, 5, 6, 7, 8])], con := [], loops := [(4, loopCon N zA2.sk4 zA2.xs4 (fun {R} => zA2.l4 (R := R) N))], joins := [] }
theorem zA2.cons (N : Nat) : ConsOk Try.prog (zA2.cfg N).con := consOk_nil
theorem zA2.h4 {R : Type} (N : Nat) (d : zA2.sk4.D) (kn : zA2.sk4.D → Option R) (kx : XD zA2.xs4 → Option R) : roundK (zA2.cfg N) N (nthLoop (fnBody Try.f56) 0) zA2.sk4 zA2.xs4 d kn kx = zA2.l4 N d kn kx := by kernel_rfl
theorem zA2.i4 (N : Nat) : LoopsOk Try.prog (zA2.cfg N) (nthLoop (fnBody Try.f56) 0) := loopsL (l := []) (by kernel_rfl) trivial
theorem zA2.o4 (N : Nat) : LoopOk Try.prog (nthLoop (fnBody Try.f56) 0) (loopCon N zA2.sk4 zA2.xs4 (fun {R} => zA2.l4 (R := R) N)) := loop_ok (g := zA2.cfg N) tys_ok (zA2.cons N) mixed (zA2.i4 N) (fun d kn kx => zA2.h4 N d kn kx)
theorem zA2.ls (N : Nat) : LoopsOk Try.prog (zA2.cfg N) (fnBody Try.f56) := loopsL (l := [nthLoop (fnBody Try.f56) 0]) (by kernel_rfl) ⟨loopOne (L0 := loopCon N zA2.sk4 zA2.xs4 (fun {R} => zA2.l4 (R := R) N)) (id := 4) (by kernel_rfl) (by kernel_rfl) (zA2.o4 N), trivial⟩
theorem zA2.q4 {R R' : Type} {N n : Nat} {d} {k} {g : R → Option R'} : bindF (loopP (zA2.l4 N) n d k) g = loopP (zA2.l4 N) n d fun e => bindF (k e) g := bindF_loopP (fun d kn kx => by simp only [zA2.l4, bindF_ifB, bindF_bindO, bindF_pure, bindF_none, bindF_onSum]) n d k
theorem zA2.b (N : Nat) (x0 : den s23) (x1 : den s23) : body (zA2.cfg N) N Try.f56 [.one, .one] [.v, .v] [(false, .imm)] [⟨s23, .imm, x0⟩, ⟨s23, .imm, x1⟩] (fun r i => some (r, i)) = bindO (zA2 N x0 x1) fun r => some ([⟨.bool, .imm, r⟩], []) := by
  show _ = bindF _ _
  conv => rhs; simp only [zA2, bindF_ifB, bindF_bindO, bindF_pure, bindF_none, bindF_onSum, zA2.q4]
  kernel_rfl
theorem zA2.ok (N : Nat) : ConOk Try.prog 56 [.one, .one] (zA2.con N) := ok2 (g := zA2.cfg N) (N := N) (res := [(false, .imm)]) tys_ok (zA2.cons N) mixed Try.func56 (zA2.ls N) rfl (zA2.b N)
theorem zA2.det (N : Nat) : ConDet (zA2.con N) := det2
end Go.AE.F
end
