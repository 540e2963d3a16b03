/- The printed functions are what the program comes to: contracts. -/
import Derived.Test.YtgmekdclnhpchaaLViewL1
noncomputable section
namespace Go.AE.F
open Go.AE Go.Proofs
set_option maxRecDepth 100000
def zBN.con (N : Nat) : Con := { modes := [.v, .v], ptrs := [false], fn := fn2 (.int .i64) .imm (.int .i64) .imm (zBN N) (fun r => [⟨s29, (.pr .imm (.pr .imm (.pr (.own .imm) .imm))), r⟩]) (fun r => []) }
def zBN.cfg (N : Nat) : Cfg := { ty := tys, keep := [7], flt := [], elm := elm0, live := [], ord := [], con := [((21, [.one, .one]), zB4.con N)], loops := [], joins := [] }
theorem zBN.cons (N : Nat) : ConsOk Try.prog (zBN.cfg N).con := (consOk_cons (hb21) (zB4.ok N) (zB4.det N) consOk_nil)
theorem zBN.ls (N : Nat) : LoopsOk Try.prog (zBN.cfg N) (fnBody Try.f23) := loopsL (l := []) (by kernel_rfl) trivial
theorem zBN.b (N : Nat) (x0 : den (.int .i64)) (x1 : den (.int .i64)) : body (zBN.cfg N) N Try.f23 [.one, .one] [.v, .v] [(false, (.pr .imm (.pr .imm (.pr (.own .imm) .imm))))] [⟨(.int .i64), .imm, x0⟩, ⟨(.int .i64), .imm, x1⟩] (fun r i => some (r, i)) = bindO (zBN N x0 x1) fun r => some ([⟨s29, (.pr .imm (.pr .imm (.pr (.own .imm) .imm))), r⟩], []) := by
  show _ = bindF _ _
  conv => rhs; simp only [zBN, bindF_ifB, bindF_bindO, bindF_pure, bindF_none, bindF_onSum]
  kernel_rfl
theorem zBN.ok (N : Nat) : ConOk Try.prog 23 [.one, .one] (zBN.con N) := ok2 (g := zBN.cfg N) (N := N) (res := [(false, (.pr .imm (.pr .imm (.pr (.own .imm) .imm))))]) tys_ok (zBN.cons N) mixed Try.func23 (zBN.ls N) rfl (zBN.b N)
theorem zBN.det (N : Nat) : ConDet (zBN.con N) := det2
def zA8.sk11 : Skel := ⟨dd 3 (.pv (.int .i64) :: (.pv (.int .i64) :: (dd 5 (.ptr 50 [] :: (.ptr 51 [] :: (dd 2 (.ptr 52 [] :: (.pv (.int .i64) :: (dd 99 []))))))))), [⟨50, s31, (.pr (.pr .imm (.pr .imm (.pr (.own (.pr (.own .imm) .imm)) .imm))) .imm), true, false⟩, ⟨51, s59, .imm, true, false⟩, ⟨52, s31, (.pr (.pr .imm (.pr .imm (.pr (.own .imm) .imm))) .imm), true, false⟩]⟩
def zA8.xs11 : List XS := [⟨.exit 0, [10, 14], ⟨dd 10 (.ptr 50 [] :: (dd 3 (.ptr 51 [] :: (dd 100 [])))), [⟨50, s31, (.pr (.pr .imm (.pr .imm (.pr (.own (.pr (.own .imm) .imm)) .imm))) .imm), true, false⟩, ⟨51, s31, (.pr (.pr .imm (.pr .imm (.pr (.own .imm) .imm))) .imm), true, false⟩]⟩⟩]
def zA8.sk14 : Skel := ⟨dd 3 (.pv (.int .i64) :: (.pv (.int .i64) :: (dd 5 (.ptr 50 [] :: (.ptr 51 [] :: (dd 2 (.ptr 52 [] :: (.pv (.int .i64) :: (.pv (.int .i64) :: (dd 98 [])))))))))), [⟨50, s31, (.pr (.pr .imm (.pr .imm (.pr (.own (.pr (.own .imm) .imm)) .imm))) .imm), true, false⟩, ⟨51, s59, .imm, true, false⟩, ⟨52, s31, (.pr (.pr .imm (.pr .imm (.pr (.own .imm) .imm))) .imm), true, false⟩]⟩
def zA8.xs14 : List XS := [⟨.exit 2, [3, 4, 10, 11, 14, 15], ⟨dd 3 (.pv (.int .i64) :: (.pv (.int .i64) :: (dd 5 (.ptr 50 [] :: (.ptr 51 [] :: (dd 2 (.ptr 52 [] :: (.pv (.int .i64) :: (dd 99 []))))))))), [⟨50, s31, (.pr (.pr .imm (.pr .imm (.pr (.own (.pr (.own .imm) .imm)) .imm))) .imm), true, false⟩, ⟨51, s59, .imm, true, false⟩, ⟨52, s31, (.pr (.pr .imm (.pr .imm (.pr (.own .imm) .imm))) .imm), true, false⟩]⟩⟩]
def zA8.con (N : Nat) : Con := { modes := [.v, .v, .v, .v, .v], ptrs := [false], fn := fn5 s23 .imm s24 .imm .bool .imm (.int .i64) .imm (.int .i64) .imm (zA8 N) (fun r => [⟨s31, (.pr (.pr .imm (.pr .imm (.pr (.own .imm) .imm))) .imm), r⟩]) (fun r => []) }
def zA8.cfg (N : Nat) : Cfg := { ty := tys, keep := [22, 26, 32, 41, 51, 57], flt := [], elm := elm0, live := [(14, [3, 4, 10, 11, 14, 15, 16]), (11, [3, 4, 10, 11, 14, 15])], ord := [(7, [10, 0, 1, 3, 4, 5, 6, 7, 2, 8, 9, 11]), (11, [0, 1, 2, 3, 4, 5, 6, 7, 8, 9, 10, 11, 12, 13, 14]), (16, [0, 1, 2, 3, 4, 5, 6, 7, 8, 9, 10, 11, 12, 13, 14, 15, 16, 17, 18, 19, 20, 21, 22])], con := [((19, [.one]), zA7.con N), ((20, [.one]), zBC.con N), ((21, [.one, .one]), zB4.con N), ((22, [.one, .one, .one, .one]), zA9.con N), ((23, [.one, .one]), zBN.con N), ((24, [.one, .one]), zBD.con N)], loops := [(11, loopCon N zA8.sk11 zA8.xs11 (fun {R} => zA8.l11 (R := R) N)), (14, loopCon N zA8.sk14 zA8.xs14 (fun {R} => zA8.l14 (R := R) N))], joins := [] }
theorem zA8.cons (N : Nat) : ConsOk Try.prog (zA8.cfg N).con := (consOk_cons (hb19) (zA7.ok N) (zA7.det N) (consOk_cons (hb20) (zBC.ok N) (zBC.det N) (consOk_cons (hb21) (zB4.ok N) (zB4.det N) (consOk_cons (hb22) (zA9.ok N) (zA9.det N) (consOk_cons (hb23) (zBN.ok N) (zBN.det N) (consOk_cons (hb24) (zBD.ok N) (zBD.det N) consOk_nil))))))
theorem zA8.h14 {R : Type} (N : Nat) (d : zA8.sk14.D) (kn : zA8.sk14.D → Option R) (kx : XD zA8.xs14 → Option R) : roundK (zA8.cfg N) N (nthLoop (fnBody Try.f5) 1) zA8.sk14 zA8.xs14 d kn kx = zA8.l14 N d kn kx := by kernel_rfl
theorem zA8.i14 (N : Nat) : LoopsOk Try.prog (zA8.cfg N) (nthLoop (fnBody Try.f5) 1) := loopsL (l := []) (by kernel_rfl) trivial
theorem zA8.o14 (N : Nat) : LoopOk Try.prog (nthLoop (fnBody Try.f5) 1) (loopCon N zA8.sk14 zA8.xs14 (fun {R} => zA8.l14 (R := R) N)) := loop_ok (g := zA8.cfg N) tys_ok (zA8.cons N) mixed (zA8.i14 N) (fun d kn kx => zA8.h14 N d kn kx)
theorem zA8.h11 {R : Type} (N : Nat) (d : zA8.sk11.D) (kn : zA8.sk11.D → Option R) (kx : XD zA8.xs11 → Option R) : roundK (zA8.cfg N) N (nthLoop (fnBody Try.f5) 0) zA8.sk11 zA8.xs11 d kn kx = zA8.l11 N d kn kx := by kernel_rfl
theorem zA8.i11 (N : Nat) : LoopsOk Try.prog (zA8.cfg N) (nthLoop (fnBody Try.f5) 0) := loopsL (l := [nthLoop (fnBody Try.f5) 1]) (by kernel_rfl) ⟨loopOne (L0 := loopCon N zA8.sk14 zA8.xs14 (fun {R} => zA8.l14 (R := R) N)) (id := 14) (by kernel_rfl) (by kernel_rfl) (zA8.o14 N), trivial⟩
theorem zA8.o11 (N : Nat) : LoopOk Try.prog (nthLoop (fnBody Try.f5) 0) (loopCon N zA8.sk11 zA8.xs11 (fun {R} => zA8.l11 (R := R) N)) := loop_ok (g := zA8.cfg N) tys_ok (zA8.cons N) mixed (zA8.i11 N) (fun d kn kx => zA8.h11 N d kn kx)
theorem zA8.ls (N : Nat) : LoopsOk Try.prog (zA8.cfg N) (fnBody Try.f5) := loopsL (l := [nthLoop (fnBody Try.f5) 0, nthLoop (fnBody Try.f5) 1]) (by kernel_rfl) ⟨loopOne (L0 := loopCon N zA8.sk11 zA8.xs11 (fun {R} => zA8.l11 (R := R) N)) (id := 11) (by kernel_rfl) (by kernel_rfl) (zA8.o11 N), ⟨loopOne (L0 := loopCon N zA8.sk14 zA8.xs14 (fun {R} => zA8.l14 (R := R) N)) (id := 14) (by kernel_rfl) (by kernel_rfl) (zA8.o14 N), trivial⟩⟩
theorem zA8.q14 {R R' : Type} {N n : Nat} {d} {k} {g : R → Option R'} : bindF (loopP (zA8.l14 N) n d k) g = loopP (zA8.l14 N) n d fun e => bindF (k e) g := bindF_loopP (fun d kn kx => by simp only [zA8.l14, bindF_ifB, bindF_bindO, bindF_pure, bindF_none, bindF_onSum]) n d k
theorem zA8.q11 {R R' : Type} {N n : Nat} {d} {k} {g : R → Option R'} : bindF (loopP (zA8.l11 N) n d k) g = loopP (zA8.l11 N) n d fun e => bindF (k e) g := bindF_loopP (fun d kn kx => by simp only [zA8.l11, bindF_ifB, bindF_bindO, bindF_pure, bindF_none, bindF_onSum, zA8.q14]) n d k
theorem zA8.b (N : Nat) (x0 : den s23) (x1 : den s24) (x2 : den .bool) (x3 : den (.int .i64)) (x4 : den (.int .i64)) : body (zA8.cfg N) N Try.f5 [.one, .one, .one, .one, .one] [.v, .v, .v, .v, .v] [(false, (.pr (.pr .imm (.pr .imm (.pr (.own .imm) .imm))) .imm))] [⟨s23, .imm, x0⟩, ⟨s24, .imm, x1⟩, ⟨.bool, .imm, x2⟩, ⟨(.int .i64), .imm, x3⟩, ⟨(.int .i64), .imm, x4⟩] (fun r i => some (r, i)) = bindO (zA8 N x0 x1 x2 x3 x4) fun r => some ([⟨s31, (.pr (.pr .imm (.pr .imm (.pr (.own .imm) .imm))) .imm), r⟩], []) := by
  show _ = bindF _ _
  conv => rhs; simp only [zA8, bindF_ifB, bindF_bindO, bindF_pure, bindF_none, bindF_onSum, zA8.q11, zA8.q14]
  kernel_rfl
theorem zA8.ok (N : Nat) : ConOk Try.prog 5 [.one, .one, .one, .one, .one] (zA8.con N) := ok5 (g := zA8.cfg N) (N := N) (res := [(false, (.pr (.pr .imm (.pr .imm (.pr (.own .imm) .imm))) .imm))]) tys_ok (zA8.cons N) mixed Try.func5 (zA8.ls N) rfl (zA8.b N)
theorem zA8.det (N : Nat) : ConDet (zA8.con N) := det5
def zBO.con (N : Nat) : Con := { modes := [.v], ptrs := [false], fn := fn1 s23 .imm (zBO N) (fun r => [⟨s23, (.own .imm), r⟩]) (fun r => []) }
def zBO.cfg (N : Nat) : Cfg := { ty := tys, keep := [], flt := [], elm := elm0, live := [], ord := [], con := [], loops := [], joins := [] }
theorem zBO.cons (N : Nat) : ConsOk Try.prog (zBO.cfg N).con := consOk_nil
theorem zBO.ls (N : Nat) : LoopsOk Try.prog (zBO.cfg N) (fnBody Try.f7) := loopsL (l := []) (by kernel_rfl) trivial
theorem zBO.b (N : Nat) (x0 : den s23) : body (zBO.cfg N) N Try.f7 [.one] [.v] [(false, (.own .imm))] [⟨s23, .imm, x0⟩] (fun r i => some (r, i)) = bindO (zBO N x0) fun r => some ([⟨s23, (.own .imm), r⟩], []) := by
  show _ = bindF _ _
  conv => rhs; simp only [zBO, bindF_ifB, bindF_bindO, bindF_pure, bindF_none, bindF_onSum]
  kernel_rfl
theorem zBO.ok (N : Nat) : ConOk Try.prog 7 [.one] (zBO.con N) := ok1 (g := zBO.cfg N) (N := N) (res := [(false, (.own .imm))]) tys_ok (zBO.cons N) mixed Try.func7 (zBO.ls N) rfl (zBO.b N)
theorem zBO.det (N : Nat) : ConDet (zBO.con N) := det1
def zBQ.con (N : Nat) : Con := { modes := [.v], ptrs := [false], fn := fn1 (.int .i64) .imm (zBQ N) (fun r => [⟨.bool, .imm, r⟩]) (fun r => []) }
def zBQ.cfg (N : Nat) : Cfg := { ty := tys, keep := [], flt := [], elm := elm0, live := [], ord := [], con := [], loops := [], joins := [] }
theorem zBQ.cons (N : Nat) : ConsOk Try.prog (zBQ.cfg N).con := consOk_nil
theorem zBQ.ls (N : Nat) : LoopsOk Try.prog (zBQ.cfg N) (fnBody Try.f25) := loopsL (l := []) (by kernel_rfl) trivial
theorem zBQ.b (N : Nat) (x0 : den (.int .i64)) : body (zBQ.cfg N) N Try.f25 [.one] [.v] [(false, .imm)] [⟨(.int .i64), .imm, x0⟩] (fun r i => some (r, i)) = bindO (zBQ N x0) fun r => some ([⟨.bool, .imm, r⟩], []) := by
  show _ = bindF _ _
  conv => rhs; simp only [zBQ, bindF_ifB, bindF_bindO, bindF_pure, bindF_none, bindF_onSum]
  kernel_rfl
theorem zBQ.ok (N : Nat) : ConOk Try.prog 25 [.one] (zBQ.con N) := ok1 (g := zBQ.cfg N) (N := N) (res := [(false, .imm)]) tys_ok (zBQ.cons N) mixed Try.func25 (zBQ.ls N) rfl (zBQ.b N)
theorem zBQ.det (N : Nat) : ConDet (zBQ.con N) := det1
def zAI.con (N : Nat) : Con := { modes := [.v, .v, .v], ptrs := [false], fn := fn3 (.int .i64) .imm (.int .i64) .imm (.int .i64) .imm (zAI N) (fun r => [⟨.bool, .imm, r⟩]) (fun r => []) }
def zAI.cfg (N : Nat) : Cfg := { ty := tys, keep := [], flt := [], elm := elm0, live := [], ord := [], con := [], loops := [], joins := [] }
theorem zAI.cons (N : Nat) : ConsOk Try.prog (zAI.cfg N).con := consOk_nil
theorem zAI.ls (N : Nat) : LoopsOk Try.prog (zAI.cfg N) (fnBody Try.f30) := loopsL (l := []) (by kernel_rfl) trivial
theorem zAI.b (N : Nat) (x0 : den (.int .i64)) (x1 : den (.int .i64)) (x2 : den (.int .i64)) : body (zAI.cfg N) N Try.f30 [.one, .one, .one] [.v, .v, .v] [(false, .imm)] [⟨(.int .i64), .imm, x0⟩, ⟨(.int .i64), .imm, x1⟩, ⟨(.int .i64), .imm, x2⟩] (fun r i => some (r, i)) = bindO (zAI N x0 x1 x2) fun r => some ([⟨.bool, .imm, r⟩], []) := by
  show _ = bindF _ _
  conv => rhs; simp only [zAI, bindF_ifB, bindF_bindO, bindF_pure, bindF_none, bindF_onSum]
  kernel_rfl
theorem zAI.ok (N : Nat) : ConOk Try.prog 30 [.one, .one, .one] (zAI.con N) := ok3 (g := zAI.cfg N) (N := N) (res := [(false, .imm)]) tys_ok (zAI.cons N) mixed Try.func30 (zAI.ls N) rfl (zAI.b N)
theorem zAI.det (N : Nat) : ConDet (zAI.con N) := det3
def zB8.con (N : Nat) : Con := { modes := [.v], ptrs := [false], fn := fn1 (.int .i64) .imm (zB8 N) (fun r => [⟨.bool, .imm, r⟩]) (fun r => []) }
def zB8.cfg (N : Nat) : Cfg := { ty := tys, keep := [4, 7], flt := [], elm := elm0, live := [], ord := [], con := [((30, [.one, .one, .one]), zAI.con N)], loops := [], joins := [] }
theorem zB8.cons (N : Nat) : ConsOk Try.prog (zB8.cfg N).con := (consOk_cons (hb30) (zAI.ok N) (zAI.det N) consOk_nil)
theorem zB8.ls (N : Nat) : LoopsOk Try.prog (zB8.cfg N) (fnBody Try.f52) := loopsL (l := []) (by kernel_rfl) trivial
theorem zB8.b (N : Nat) (x0 : den (.int .i64)) : body (zB8.cfg N) N Try.f52 [.one] [.v] [(false, .imm)] [⟨(.int .i64), .imm, x0⟩] (fun r i => some (r, i)) = bindO (zB8 N x0) fun r => some ([⟨.bool, .imm, r⟩], []) := by
  show _ = bindF _ _
  conv => rhs; simp only [zB8, bindF_ifB, bindF_bindO, bindF_pure, bindF_none, bindF_onSum]
  kernel_rfl
theorem zB8.ok (N : Nat) : ConOk Try.prog 52 [.one] (zB8.con N) := ok1 (g := zB8.cfg N) (N := N) (res := [(false, .imm)]) tys_ok (zB8.cons N) mixed Try.func52 (zB8.ls N) rfl (zB8.b N)
theorem zB8.det (N : Nat) : ConDet (zB8.con N) := det1
def zAU.con (N : Nat) : Con := { modes := [.v], ptrs := [false], fn := fn1 (.int .i64) .imm (zAU N) (fun r => [⟨.bool, .imm, r⟩]) (fun r => []) }
def zAU.cfg (N : Nat) : Cfg := { ty := tys, keep := [4], flt := [], elm := elm0, live := [], ord := [], con := [((52, [.one]), zB8.con N)], loops := [], joins := [] }
theorem zAU.cons (N : Nat) : ConsOk Try.prog (zAU.cfg N).con := (consOk_cons (hb52) (zB8.ok N) (zB8.det N) consOk_nil)
theorem zAU.ls (N : Nat) : LoopsOk Try.prog (zAU.cfg N) (fnBody Try.f61) := loopsL (l := []) (by kernel_rfl) trivial
theorem zAU.b (N : Nat) (x0 : den (.int .i64)) : body (zAU.cfg N) N Try.f61 [.one] [.v] [(false, .imm)] [⟨(.int .i64), .imm, x0⟩] (fun r i => some (r, i)) = bindO (zAU N x0) fun r => some ([⟨.bool, .imm, r⟩], []) := by
  show _ = bindF _ _
  conv => rhs; simp only [zAU, bindF_ifB, bindF_bindO, bindF_pure, bindF_none, bindF_onSum]
  kernel_rfl
theorem zAU.ok (N : Nat) : ConOk Try.prog 61 [.one] (zAU.con N) := ok1 (g := zAU.cfg N) (N := N) (res := [(false, .imm)]) tys_ok (zAU.cons N) mixed Try.func61 (zAU.ls N) rfl (zAU.b N)
theorem zAU.det (N : Nat) : ConDet (zAU.con N) := det1
def zA1.sk2 : Skel := ⟨.pv s23 :: (.fn 61 [] :: (dd 5 (.pv (.int .i64) :: (.pv (.int .i64) :: (dd 10 []))))), []⟩
def zA1.xs2 : List XS := [⟨.exit 0, [], ⟨dd 19 [], []⟩⟩, ⟨.ret, [4], ⟨dd 4 (.pv (.int .i64) :: (dd 14 [])), []⟩⟩]
def zA1.con (N : Nat) : Con := { modes := [.v], ptrs := [false], fn := fn1 s23 .imm (zA1 N) (fun r => [⟨(.int .i64), .imm, r⟩]) (fun r => []) }
def zA1.cfg (N : Nat) : Cfg := { ty := tys, keep := [16], flt := [], elm := elm0, live := [(2, [0, 1, 7, 8])], ord := [], con := [((61, [.one]), zAU.con N)], loops := [(2, loopCon N zA1.sk2 zA1.xs2 (fun {R} => zA1.l2 (R := R) N))], joins := [] }
theorem zA1.cons (N : Nat) : ConsOk Try.prog (zA1.cfg N).con := (consOk_cons (hb61) (zAU.ok N) (zAU.det N) consOk_nil)
theorem zA1.h2 {R : Type} (N : Nat) (d : zA1.sk2.D) (kn : zA1.sk2.D → Option R) (kx : XD zA1.xs2 → Option R) : roundK (zA1.cfg N) N (nthLoop (fnBody Try.f67) 0) zA1.sk2 zA1.xs2 d kn kx = zA1.l2 N d kn kx := by kernel_rfl
theorem zA1.i2 (N : Nat) : LoopsOk Try.prog (zA1.cfg N) (nthLoop (fnBody Try.f67) 0) := loopsL (l := []) (by kernel_rfl) trivial
theorem zA1.o2 (N : Nat) : LoopOk Try.prog (nthLoop (fnBody Try.f67) 0) (loopCon N zA1.sk2 zA1.xs2 (fun {R} => zA1.l2 (R := R) N)) := loop_ok (g := zA1.cfg N) tys_ok (zA1.cons N) mixed (zA1.i2 N) (fun d kn kx => zA1.h2 N d kn kx)
theorem zA1.ls (N : Nat) : LoopsOk Try.prog (zA1.cfg N) (fnBody Try.f67) := loopsL (l := [nthLoop (fnBody Try.f67) 0]) (by kernel_rfl) ⟨loopOne (L0 := loopCon N zA1.sk2 zA1.xs2 (fun {R} => zA1.l2 (R := R) N)) (id := 2) (by kernel_rfl) (by kernel_rfl) (zA1.o2 N), trivial⟩
theorem zA1.q2 {R R' : Type} {N n : Nat} {d} {k} {g : R → Option R'} : bindF (loopP (zA1.l2 N) n d k) g = loopP (zA1.l2 N) n d fun e => bindF (k e) g := bindF_loopP (fun d kn kx => by simp only [zA1.l2, bindF_ifB, bindF_bindO, bindF_pure, bindF_none, bindF_onSum]) n d k
theorem zA1.b (N : Nat) (x0 : den s23) : body (zA1.cfg N) N Try.f67 [.one, .fn 61 0] [.v] [(false, .imm)] [⟨s23, .imm, x0⟩] (fun r i => some (r, i)) = bindO (zA1 N x0) fun r => some ([⟨(.int .i64), .imm, r⟩], []) := by
  show _ = bindF _ _
  conv => rhs; simp only [zA1, bindF_ifB, bindF_bindO, bindF_pure, bindF_none, bindF_onSum, zA1.q2]
  kernel_rfl
theorem zA1.ok (N : Nat) : ConOk Try.prog 67 [.one, .fn 61 0] (zA1.con N) := ok1 (g := zA1.cfg N) (N := N) (res := [(false, .imm)]) tys_ok (zA1.cons N) mixed Try.func67 (zA1.ls N) rfl (zA1.b N)
theorem zA1.det (N : Nat) : ConDet (zA1.con N) := det1
def zA3.con (N : Nat) : Con := { modes := [.v], ptrs := [false], fn := fn1 s23 .imm (zA3 N) (fun r => [⟨.bool, .imm, r⟩]) (fun r => []) }
def zA3.cfg (N : Nat) : Cfg := { ty := tys, keep := [7], flt := [], elm := elm0, live := [], ord := [], con := [((67, [.one, .fn 61 0]), zA1.con N)], loops := [], joins := [] }
theorem zA3.cons (N : Nat) : ConsOk Try.prog (zA3.cfg N).con := (consOk_cons (hb67) (zA1.ok N) (zA1.det N) consOk_nil)
theorem zA3.ls (N : Nat) : LoopsOk Try.prog (zA3.cfg N) (fnBody Try.f60) := loopsL (l := []) (by kernel_rfl) trivial
theorem zA3.b (N : Nat) (x0 : den s23) : body (zA3.cfg N) N Try.f60 [.one, .fn 61 0] [.v] [(false, .imm)] [⟨s23, .imm, x0⟩] (fun r i => some (r, i)) = bindO (zA3 N x0) fun r => some ([⟨.bool, .imm, r⟩], []) := by
  show _ = bindF _ _
  conv => rhs; simp only [zA3, bindF_ifB, bindF_bindO, bindF_pure, bindF_none, bindF_onSum]
  kernel_rfl
theorem zA3.ok (N : Nat) : ConOk Try.prog 60 [.one, .fn 61 0] (zA3.con N) := ok1 (g := zA3.cfg N) (N := N) (res := [(false, .imm)]) tys_ok (zA3.cons N) mixed Try.func60 (zA3.ls N) rfl (zA3.b N)
theorem zA3.det (N : Nat) : ConDet (zA3.con N) := det1
def zAW.con (N : Nat) : Con := { modes := [.v], ptrs := [false], fn := fn1 s23 .imm (zAW N) (fun r => [⟨.bool, .imm, r⟩]) (fun r => []) }
def zAW.cfg (N : Nat) : Cfg := { ty := tys, keep := [8], flt := [], elm := elm0, live := [], ord := [], con := [((60, [.one, .fn 61 0]), zA3.con N)], loops := [], joins := [] }
theorem zAW.cons (N : Nat) : ConsOk Try.prog (zAW.cfg N).con := (consOk_cons (hb60) (zA3.ok N) (zA3.det N) consOk_nil)
theorem zAW.ls (N : Nat) : LoopsOk Try.prog (zAW.cfg N) (fnBody Try.f46) := loopsL (l := []) (by kernel_rfl) trivial
theorem zAW.b (N : Nat) (x0 : den s23) : body (zAW.cfg N) N Try.f46 [.one] [.v] [(false, .imm)] [⟨s23, .imm, x0⟩] (fun r i => some (r, i)) = bindO (zAW N x0) fun r => some ([⟨.bool, .imm, r⟩], []) := by
  show _ = bindF _ _
  conv => rhs; simp only [zAW, bindF_ifB, bindF_bindO, bindF_pure, bindF_none, bindF_onSum]
  kernel_rfl
theorem zAW.ok (N : Nat) : ConOk Try.prog 46 [.one] (zAW.con N) := ok1 (g := zAW.cfg N) (N := N) (res := [(false, .imm)]) tys_ok (zAW.cons N) mixed Try.func46 (zAW.ls N) rfl (zAW.b N)
theorem zAW.det (N : Nat) : ConDet (zAW.con N) := det1
def zB3.con (N : Nat) : Con := { modes := [.v], ptrs := [false], fn := fn1 s23 .imm (zB3 N) (fun r => [⟨(.int .i64), .imm, r⟩]) (fun r => []) }
def zB3.cfg (N : Nat) : Cfg := { ty := tys, keep := [], flt := [], elm := elm0, live := [], ord := [], con := [], loops := [], joins := [] }
theorem zB3.cons (N : Nat) : ConsOk Try.prog (zB3.cfg N).con := consOk_nil
theorem zB3.ls (N : Nat) : LoopsOk Try.prog (zB3.cfg N) (fnBody Try.f51) := loopsL (l := []) (by kernel_rfl) trivial
theorem zB3.b (N : Nat) (x0 : den s23) : body (zB3.cfg N) N Try.f51 [.one] [.v] [(false, .imm)] [⟨s23, .imm, x0⟩] (fun r i => some (r, i)) = bindO (zB3 N x0) fun r => some ([⟨(.int .i64), .imm, r⟩], []) := by
  show _ = bindF _ _
  conv => rhs; simp only [zB3, bindF_ifB, bindF_bindO, bindF_pure, bindF_none, bindF_onSum]
  kernel_rfl
theorem zB3.ok (N : Nat) : ConOk Try.prog 51 [.one] (zB3.con N) := ok1 (g := zB3.cfg N) (N := N) (res := [(false, .imm)]) tys_ok (zB3.cons N) mixed Try.func51 (zB3.ls N) rfl (zB3.b N)
theorem zB3.det (N : Nat) : ConDet (zB3.con N) := det1
def zAT.con (N : Nat) : Con := { modes := [.rd, .v], ptrs := [false], fn := fn2 s24 .imm (.int .i64) .imm (zAT N) (fun r => [⟨.bool, .imm, r⟩]) (fun r => []) }
def zAT.cfg (N : Nat) : Cfg := { ty := tys, keep := [10, 11], flt := [], elm := elm0, live := [], ord := [], con := [((51, [.one]), zB3.con N), ((30, [.one, .one, .one]), zAI.con N)], loops := [], joins := [] }
theorem zAT.cons (N : Nat) : ConsOk Try.prog (zAT.cfg N).con := (consOk_cons (hb51) (zB3.ok N) (zB3.det N) (consOk_cons (hb30) (zAI.ok N) (zAI.det N) consOk_nil))
theorem zAT.ls (N : Nat) : LoopsOk Try.prog (zAT.cfg N) (fnBody Try.f32) := loopsL (l := []) (by kernel_rfl) trivial
theorem zAT.b (N : Nat) (x0 : den s24) (x1 : den (.int .i64)) : body (zAT.cfg N) N Try.f32 [.one, .one] [.rd, .v] [(false, .imm)] [⟨s24, .imm, x0⟩, ⟨(.int .i64), .imm, x1⟩] (fun r i => some (r, i)) = bindO (zAT N x0 x1) fun r => some ([⟨.bool, .imm, r⟩], []) := by
  show _ = bindF _ _
  conv => rhs; simp only [zAT, bindF_ifB, bindF_bindO, bindF_pure, bindF_none, bindF_onSum]
  kernel_rfl
theorem zAT.ok (N : Nat) : ConOk Try.prog 32 [.one, .one] (zAT.con N) := ok2 (g := zAT.cfg N) (N := N) (res := [(false, .imm)]) tys_ok (zAT.cons N) mixed Try.func32 (zAT.ls N) rfl (zAT.b N)
theorem zAT.det (N : Nat) : ConDet (zAT.con N) := det2
end Go.AE.F
end
