/- The printed functions are what the program comes to: contracts. -/
import Derived.Test.YtgmekdclnhpchaaLViewL0
noncomputable section
namespace Go.AE.F
open Go.AE Go.Proofs
set_option maxRecDepth 100000
def zB4.con (N : Nat) : Con := { modes := [.v, .v], ptrs := [false], fn := fn2 (.int .i64) .imm (.int .i64) .imm (zB4 N) (fun r => [⟨.bool, .imm, r⟩]) (fun r => []) }
def zB4.cfg (N : Nat) : Cfg := { ty := tys, keep := [], flt := [], elm := elm0, live := [], ord := [], con := [], loops := [], joins := [] }
theorem zB4.cons (N : Nat) : ConsOk Try.prog (zB4.cfg N).con := consOk_nil
theorem zB4.ls (N : Nat) : LoopsOk Try.prog (zB4.cfg N) (fnBody Try.f21) := loopsL (l := []) (by kernel_rfl) trivial
theorem zB4.b (N : Nat) (x0 : den (.int .i64)) (x1 : den (.int .i64)) : body (zB4.cfg N) N Try.f21 [.one, .one] [.v, .v] [(false, .imm)] [⟨(.int .i64), .imm, x0⟩, ⟨(.int .i64), .imm, x1⟩] (fun r i => some (r, i)) = bindO (zB4 N x0 x1) fun r => some ([⟨.bool, .imm, r⟩], []) := by
  show _ = bindF _ _
  conv => rhs; simp only [zB4, bindF_ifB, bindF_bindO, bindF_pure, bindF_none, bindF_onSum]
  kernel_rfl
theorem zB4.ok (N : Nat) : ConOk Try.prog 21 [.one, .one] (zB4.con N) := ok2 (g := zB4.cfg N) (N := N) (res := [(false, .imm)]) tys_ok (zB4.cons N) mixed Try.func21 (zB4.ls N) rfl (zB4.b N)
theorem zB4.det (N : Nat) : ConDet (zB4.con N) := det2
def zAL.con (N : Nat) : Con := { modes := [.io], ptrs := [], fn := fn1 s59 (.pr .imm (.pr (.own (.own (.pr (.own .imm) .imm))) .imm)) (zAL N) (fun r => []) (fun r => [⟨s59, (.pr .imm (.pr (.own (.own (.pr (.own .imm) .imm))) .imm)), r⟩]) }
def zAL.cfg (N : Nat) : Cfg := { ty := tys, keep := [], flt := [], elm := elm0, live := [], ord := [(0, [0, 1, 2, 3, 4, 5, 6, 7, 8, 9, 10, 11, 12, 13, 14])], con := [], loops := [], joins := [] }
theorem zAL.cons (N : Nat) : ConsOk Try.prog (zAL.cfg N).con := consOk_nil
theorem zAL.ls (N : Nat) : LoopsOk Try.prog (zAL.cfg N) (fnBody Try.f42) := loopsL (l := []) (by kernel_rfl) trivial
theorem zAL.b (N : Nat) (x0 : den s59) : body (zAL.cfg N) N Try.f42 [.one] [.io] [] [⟨s59, (.pr .imm (.pr (.own (.own (.pr (.own .imm) .imm))) .imm)), x0⟩] (fun r i => some (r, i)) = bindO (zAL N x0) fun r => some ([], [⟨s59, (.pr .imm (.pr (.own (.own (.pr (.own .imm) .imm))) .imm)), r⟩]) := by
  show _ = bindF _ _
  conv => rhs; simp only [zAL, bindF_ifB, bindF_bindO, bindF_pure, bindF_none, bindF_onSum]
  kernel_rfl
theorem zAL.ok (N : Nat) : ConOk Try.prog 42 [.one] (zAL.con N) := ok1 (g := zAL.cfg N) (N := N) (res := []) tys_ok (zAL.cons N) mixed Try.func42 (zAL.ls N) rfl (zAL.b N)
theorem zAL.det (N : Nat) : ConDet (zAL.con N) := det1
def zBJ.con (N : Nat) : Con := { modes := [.v], ptrs := [false], fn := fn1 (.int .i64) .imm (zBJ N) (fun r => [⟨s23, (.own .imm), r⟩]) (fun r => []) }
def zBJ.cfg (N : Nat) : Cfg := { ty := tys, keep := [], flt := [], elm := elm0, live := [], ord := [], con := [], loops := [], joins := [] }
theorem zBJ.cons (N : Nat) : ConsOk Try.prog (zBJ.cfg N).con := consOk_nil
theorem zBJ.ls (N : Nat) : LoopsOk Try.prog (zBJ.cfg N) (fnBody Try.f58) := loopsL (l := []) (by kernel_rfl) trivial
theorem zBJ.b (N : Nat) (x0 : den (.int .i64)) : body (zBJ.cfg N) N Try.f58 [.one] [.v] [(false, (.own .imm))] [⟨(.int .i64), .imm, x0⟩] (fun r i => some (r, i)) = bindO (zBJ N x0) fun r => some ([⟨s23, (.own .imm), r⟩], []) := by
  show _ = bindF _ _
  conv => rhs; simp only [zBJ, bindF_ifB, bindF_bindO, bindF_pure, bindF_none, bindF_onSum]
  kernel_rfl
theorem zBJ.ok (N : Nat) : ConOk Try.prog 58 [.one] (zBJ.con N) := ok1 (g := zBJ.cfg N) (N := N) (res := [(false, (.own .imm))]) tys_ok (zBJ.cons N) mixed Try.func58 (zBJ.ls N) rfl (zBJ.b N)
theorem zBJ.det (N : Nat) : ConDet (zBJ.con N) := det1
def zBE.con (N : Nat) : Con := { modes := [.v], ptrs := [false], fn := fn1 (.int .i64) .imm (zBE N) (fun r => [⟨(.int .i64), .imm, r⟩]) (fun r => []) }
def zBE.cfg (N : Nat) : Cfg := { ty := tys, keep := [4], flt := [], elm := elm0, live := [], ord := [], con := [((41, [.one]), zB7.con N)], loops := [], joins := [] }
theorem zBE.cons (N : Nat) : ConsOk Try.prog (zBE.cfg N).con := (consOk_cons (hb41) (zB7.ok N) (zB7.det N) consOk_nil)
theorem zBE.ls (N : Nat) : LoopsOk Try.prog (zBE.cfg N) (fnBody Try.f64) := loopsL (l := []) (by kernel_rfl) trivial
theorem zBE.b (N : Nat) (x0 : den (.int .i64)) : body (zBE.cfg N) N Try.f64 [.one] [.v] [(false, .imm)] [⟨(.int .i64), .imm, x0⟩] (fun r i => some (r, i)) = bindO (zBE N x0) fun r => some ([⟨(.int .i64), .imm, r⟩], []) := by
  show _ = bindF _ _
  conv => rhs; simp only [zBE, bindF_ifB, bindF_bindO, bindF_pure, bindF_none, bindF_onSum]
  kernel_rfl
theorem zBE.ok (N : Nat) : ConOk Try.prog 64 [.one] (zBE.con N) := ok1 (g := zBE.cfg N) (N := N) (res := [(false, .imm)]) tys_ok (zBE.cons N) mixed Try.func64 (zBE.ls N) rfl (zBE.b N)
theorem zBE.det (N : Nat) : ConDet (zBE.con N) := det1
def zBG.con (N : Nat) : Con := { modes := [.v], ptrs := [false], fn := fn1 s61 .imm (zBG N) (fun r => [⟨.bool, .imm, r⟩]) (fun r => []) }
def zBG.cfg (N : Nat) : Cfg := { ty := tys, keep := [12], flt := [], elm := elm0, live := [], ord := [], con := [((64, [.one]), zBE.con N)], loops := [], joins := [] }
theorem zBG.cons (N : Nat) : ConsOk Try.prog (zBG.cfg N).con := (consOk_cons (hb64) (zBE.ok N) (zBE.det N) consOk_nil)
theorem zBG.ls (N : Nat) : LoopsOk Try.prog (zBG.cfg N) (fnBody Try.f65) := loopsL (l := []) (by kernel_rfl) trivial
theorem zBG.b (N : Nat) (x0 : den s61) : body (zBG.cfg N) N Try.f65 [.one] [.v] [(false, .imm)] [⟨s61, .imm, x0⟩] (fun r i => some (r, i)) = bindO (zBG N x0) fun r => some ([⟨.bool, .imm, r⟩], []) := by
  show _ = bindF _ _
  conv => rhs; simp only [zBG, bindF_ifB, bindF_bindO, bindF_pure, bindF_none, bindF_onSum]
  kernel_rfl
theorem zBG.ok (N : Nat) : ConOk Try.prog 65 [.one] (zBG.con N) := ok1 (g := zBG.cfg N) (N := N) (res := [(false, .imm)]) tys_ok (zBG.cons N) mixed Try.func65 (zBG.ls N) rfl (zBG.b N)
theorem zBG.det (N : Nat) : ConDet (zBG.con N) := det1
def zBH.con (N : Nat) : Con := { modes := [.v], ptrs := [false], fn := fn1 s23 .imm (zBH N) (fun r => [⟨s23, (.own .imm), r⟩]) (fun r => []) }
def zBH.cfg (N : Nat) : Cfg := { ty := tys, keep := [], flt := [], elm := elm0, live := [], ord := [], con := [], loops := [], joins := [] }
theorem zBH.cons (N : Nat) : ConsOk Try.prog (zBH.cfg N).con := consOk_nil
theorem zBH.ls (N : Nat) : LoopsOk Try.prog (zBH.cfg N) (fnBody Try.f66) := loopsL (l := []) (by kernel_rfl) trivial
theorem zBH.b (N : Nat) (x0 : den s23) : body (zBH.cfg N) N Try.f66 [.one] [.v] [(false, (.own .imm))] [⟨s23, .imm, x0⟩] (fun r i => some (r, i)) = bindO (zBH N x0) fun r => some ([⟨s23, (.own .imm), r⟩], []) := by
  show _ = bindF _ _
  conv => rhs; simp only [zBH, bindF_ifB, bindF_bindO, bindF_pure, bindF_none, bindF_onSum]
  kernel_rfl
theorem zBH.ok (N : Nat) : ConOk Try.prog 66 [.one] (zBH.con N) := ok1 (g := zBH.cfg N) (N := N) (res := [(false, (.own .imm))]) tys_ok (zBH.cons N) mixed Try.func66 (zBH.ls N) rfl (zBH.b N)
theorem zBH.det (N : Nat) : ConDet (zBH.con N) := det1
def zAV.con (N : Nat) : Con := { modes := [.io, .v, .v], ptrs := [], fn := fn3 s59 (.pr .imm (.pr (.own (.own (.pr (.own .imm) .imm))) .imm)) (.int .i64) .imm (.int .i64) .imm (zAV N) (fun r => []) (fun r => [⟨s59, (.pr .imm (.pr (.own (.own (.pr (.own .imm) .imm))) .imm)), r⟩]) }
def zAV.cfg (N : Nat) : Cfg := { ty := tys, keep := [10, 38, 69, 87], flt := [], elm := elm0, live := [], ord := [(1, [0, 1, 2, 3, 4, 5, 6, 7, 8, 9, 10, 11, 12]), (8, [0, 1, 2, 3, 4, 5, 6, 7, 8, 9, 10]), (10, [0, 1, 2, 3, 4, 5, 6, 7, 8, 9, 10, 11, 12])], con := [((64, [.one]), zBE.con N), ((65, [.one]), zBG.con N), ((66, [.one]), zBH.con N), ((42, [.one]), zAL.con N)], loops := [], joins := [] }
theorem zAV.cons (N : Nat) : ConsOk Try.prog (zAV.cfg N).con := (consOk_cons (hb64) (zBE.ok N) (zBE.det N) (consOk_cons (hb65) (zBG.ok N) (zBG.det N) (consOk_cons (hb66) (zBH.ok N) (zBH.det N) (consOk_cons (hb42) (zAL.ok N) (zAL.det N) consOk_nil))))
theorem zAV.ls (N : Nat) : LoopsOk Try.prog (zAV.cfg N) (fnBody Try.f59) := loopsL (l := []) (by kernel_rfl) trivial
theorem zAV.b (N : Nat) (x0 : den s59) (x1 : den (.int .i64)) (x2 : den (.int .i64)) : body (zAV.cfg N) N Try.f59 [.one, .one, .one] [.io, .v, .v] [] [⟨s59, (.pr .imm (.pr (.own (.own (.pr (.own .imm) .imm))) .imm)), x0⟩, ⟨(.int .i64), .imm, x1⟩, ⟨(.int .i64), .imm, x2⟩] (fun r i => some (r, i)) = bindO (zAV N x0 x1 x2) fun r => some ([], [⟨s59, (.pr .imm (.pr (.own (.own (.pr (.own .imm) .imm))) .imm)), r⟩]) := by
  show _ = bindF _ _
  conv => rhs; simp only [zAV, bindF_ifB, bindF_bindO, bindF_pure, bindF_none, bindF_onSum]
  kernel_rfl
theorem zAV.ok (N : Nat) : ConOk Try.prog 59 [.one, .one, .one] (zAV.con N) := ok3 (g := zAV.cfg N) (N := N) (res := []) tys_ok (zAV.cons N) mixed Try.func59 (zAV.ls N) rfl (zAV.b N)
theorem zAV.det (N : Nat) : ConDet (zAV.con N) := det3
def zA4.sk4 : Skel := ⟨.ptr 0 [] :: (dd 1 (.pv (.int .i64) :: (dd 3 (.ov 50 [] :: (.pv (.int .i64) :: (dd 19 [])))))), [⟨0, s59, (.pr .imm (.pr (.own (.own (.pr (.own .imm) .imm))) .imm)), true, false⟩, ⟨50, s23, (.own .imm), false, false⟩]⟩
def zA4.xs4 : List XS := [⟨.exit 0, [], ⟨dd 27 [], [⟨0, s59, (.pr .imm (.pr (.own (.own (.pr (.own .imm) .imm))) .imm)), true, false⟩]⟩⟩]
def zA4.con (N : Nat) : Con := { modes := [.io, .v, .v], ptrs := [], fn := fn3 s59 (.pr .imm (.pr (.own (.own (.pr (.own .imm) .imm))) .imm)) (.int .i64) .imm (.int .i64) .imm (zA4 N) (fun r => []) (fun r => [⟨s59, (.pr .imm (.pr (.own (.own (.pr (.own .imm) .imm))) .imm)), r⟩]) }
def zA4.cfg (N : Nat) : Cfg := { ty := tys, keep := [11, 13, 26], flt := [], elm := elm0, live := [(4, [0, 2, 6, 7])], ord := [], con := [((42, [.one]), zAL.con N), ((58, [.one]), zBJ.con N), ((59, [.one, .one, .one]), zAV.con N)], loops := [(4, loopCon N zA4.sk4 zA4.xs4 (fun {R} => zA4.l4 (R := R) N))], joins := [] }
theorem zA4.cons (N : Nat) : ConsOk Try.prog (zA4.cfg N).con := (consOk_cons (hb42) (zAL.ok N) (zAL.det N) (consOk_cons (hb58) (zBJ.ok N) (zBJ.det N) (consOk_cons (hb59) (zAV.ok N) (zAV.det N) consOk_nil)))
theorem zA4.h4 {R : Type} (N : Nat) (d : zA4.sk4.D) (kn : zA4.sk4.D → Option R) (kx : XD zA4.xs4 → Option R) : roundK (zA4.cfg N) N (nthLoop (fnBody Try.f43) 0) zA4.sk4 zA4.xs4 d kn kx = zA4.l4 N d kn kx := by kernel_rfl
theorem zA4.i4 (N : Nat) : LoopsOk Try.prog (zA4.cfg N) (nthLoop (fnBody Try.f43) 0) := loopsL (l := []) (by kernel_rfl) trivial
theorem zA4.o4 (N : Nat) : LoopOk Try.prog (nthLoop (fnBody Try.f43) 0) (loopCon N zA4.sk4 zA4.xs4 (fun {R} => zA4.l4 (R := R) N)) := loop_ok (g := zA4.cfg N) tys_ok (zA4.cons N) mixed (zA4.i4 N) (fun d kn kx => zA4.h4 N d kn kx)
theorem zA4.ls (N : Nat) : LoopsOk Try.prog (zA4.cfg N) (fnBody Try.f43) := loopsL (l := [nthLoop (fnBody Try.f43) 0]) (by kernel_rfl) ⟨loopOne (L0 := loopCon N zA4.sk4 zA4.xs4 (fun {R} => zA4.l4 (R := R) N)) (id := 4) (by kernel_rfl) (by kernel_rfl) (zA4.o4 N), trivial⟩
theorem zA4.q4 {R R' : Type} {N n : Nat} {d} {k} {g : R → Option R'} : bindF (loopP (zA4.l4 N) n d k) g = loopP (zA4.l4 N) n d fun e => bindF (k e) g := bindF_loopP (fun d kn kx => by simp only [zA4.l4, bindF_ifB, bindF_bindO, bindF_pure, bindF_none, bindF_onSum]) n d k
theorem zA4.b (N : Nat) (x0 : den s59) (x1 : den (.int .i64)) (x2 : den (.int .i64)) : body (zA4.cfg N) N Try.f43 [.one, .one, .one] [.io, .v, .v] [] [⟨s59, (.pr .imm (.pr (.own (.own (.pr (.own .imm) .imm))) .imm)), x0⟩, ⟨(.int .i64), .imm, x1⟩, ⟨(.int .i64), .imm, x2⟩] (fun r i => some (r, i)) = bindO (zA4 N x0 x1 x2) fun r => some ([], [⟨s59, (.pr .imm (.pr (.own (.own (.pr (.own .imm) .imm))) .imm)), r⟩]) := by
  show _ = bindF _ _
  conv => rhs; simp only [zA4, bindF_ifB, bindF_bindO, bindF_pure, bindF_none, bindF_onSum, zA4.q4]
  kernel_rfl
theorem zA4.ok (N : Nat) : ConOk Try.prog 43 [.one, .one, .one] (zA4.con N) := ok3 (g := zA4.cfg N) (N := N) (res := []) tys_ok (zA4.cons N) mixed Try.func43 (zA4.ls N) rfl (zA4.b N)
theorem zA4.det (N : Nat) : ConDet (zA4.con N) := det3
def zAO.con (N : Nat) : Con := { modes := [.rd], ptrs := [false], fn := fn1 s59 .imm (zAO N) (fun r => [⟨s35, .imm, r⟩]) (fun r => []) }
def zAO.cfg (N : Nat) : Cfg := { ty := tys, keep := [], flt := [], elm := elm0, live := [], ord := [(2, [0, 1, 2, 3, 4, 5, 6, 7, 8])], con := [], loops := [], joins := [] }
theorem zAO.cons (N : Nat) : ConsOk Try.prog (zAO.cfg N).con := consOk_nil
theorem zAO.ls (N : Nat) : LoopsOk Try.prog (zAO.cfg N) (fnBody Try.f44) := loopsL (l := []) (by kernel_rfl) trivial
theorem zAO.b (N : Nat) (x0 : den s59) : body (zAO.cfg N) N Try.f44 [.one] [.rd] [(false, .imm)] [⟨s59, .imm, x0⟩] (fun r i => some (r, i)) = bindO (zAO N x0) fun r => some ([⟨s35, .imm, r⟩], []) := by
  show _ = bindF _ _
  conv => rhs; simp only [zAO, bindF_ifB, bindF_bindO, bindF_pure, bindF_none, bindF_onSum]
  kernel_rfl
theorem zAO.ok (N : Nat) : ConOk Try.prog 44 [.one] (zAO.con N) := ok1 (g := zAO.cfg N) (N := N) (res := [(false, .imm)]) tys_ok (zAO.cons N) mixed Try.func44 (zAO.ls N) rfl (zAO.b N)
theorem zAO.det (N : Nat) : ConDet (zAO.con N) := det1
def zBP.con (N : Nat) : Con := { modes := [.v, .v], ptrs := [false], fn := fn2 (.int .i64) .imm (.int .i64) .imm (zBP N) (fun r => [⟨(.int .i64), .imm, r⟩]) (fun r => []) }
def zBP.cfg (N : Nat) : Cfg := { ty := tys, keep := [], flt := [], elm := elm0, live := [], ord := [], con := [], loops := [], joins := [] }
theorem zBP.cons (N : Nat) : ConsOk Try.prog (zBP.cfg N).con := consOk_nil
theorem zBP.ls (N : Nat) : LoopsOk Try.prog (zBP.cfg N) (fnBody Try.f45) := loopsL (l := []) (by kernel_rfl) trivial
theorem zBP.b (N : Nat) (x0 : den (.int .i64)) (x1 : den (.int .i64)) : body (zBP.cfg N) N Try.f45 [.one, .one] [.v, .v] [(false, .imm)] [⟨(.int .i64), .imm, x0⟩, ⟨(.int .i64), .imm, x1⟩] (fun r i => some (r, i)) = bindO (zBP N x0 x1) fun r => some ([⟨(.int .i64), .imm, r⟩], []) := by
  show _ = bindF _ _
  conv => rhs; simp only [zBP, bindF_ifB, bindF_bindO, bindF_pure, bindF_none, bindF_onSum]
  kernel_rfl
theorem zBP.ok (N : Nat) : ConOk Try.prog 45 [.one, .one] (zBP.con N) := ok2 (g := zBP.cfg N) (N := N) (res := [(false, .imm)]) tys_ok (zBP.cons N) mixed Try.func45 (zBP.ls N) rfl (zBP.b N)
theorem zBP.det (N : Nat) : ConDet (zBP.con N) := det2
def zBD.con (N : Nat) : Con := { modes := [.v, .v], ptrs := [false], fn := fn2 (.int .i64) .imm (.int .i64) .imm (zBD N) (fun r => [⟨(.int .i64), .imm, r⟩]) (fun r => []) }
def zBD.cfg (N : Nat) : Cfg := { ty := tys, keep := [], flt := [], elm := elm0, live := [], ord := [], con := [], loops := [], joins := [] }
theorem zBD.cons (N : Nat) : ConsOk Try.prog (zBD.cfg N).con := consOk_nil
theorem zBD.ls (N : Nat) : LoopsOk Try.prog (zBD.cfg N) (fnBody Try.f24) := loopsL (l := []) (by kernel_rfl) trivial
theorem zBD.b (N : Nat) (x0 : den (.int .i64)) (x1 : den (.int .i64)) : body (zBD.cfg N) N Try.f24 [.one, .one] [.v, .v] [(false, .imm)] [⟨(.int .i64), .imm, x0⟩, ⟨(.int .i64), .imm, x1⟩] (fun r i => some (r, i)) = bindO (zBD N x0 x1) fun r => some ([⟨(.int .i64), .imm, r⟩], []) := by
  show _ = bindF _ _
  conv => rhs; simp only [zBD, bindF_ifB, bindF_bindO, bindF_pure, bindF_none, bindF_onSum]
  kernel_rfl
theorem zBD.ok (N : Nat) : ConOk Try.prog 24 [.one, .one] (zBD.con N) := ok2 (g := zBD.cfg N) (N := N) (res := [(false, .imm)]) tys_ok (zBD.cons N) mixed Try.func24 (zBD.ls N) rfl (zBD.b N)
theorem zBD.det (N : Nat) : ConDet (zBD.con N) := det2
def zA9.sk4 : Skel := ⟨.pv s23 :: (dd 1 (.pv .bool :: (dd 2 (.ptr 50 [] :: (dd 4 (.ptr 51 [] :: (.pv (.int .i64) :: (dd 68 [])))))))), [⟨50, s24, .imm, true, false⟩, ⟨51, s59, (.pr .imm (.pr (.own (.own (.pr (.own .imm) .imm))) .imm)), true, false⟩]⟩
def zA9.xs4 : List XS := [⟨.exit 0, [2, 5, 10], ⟨dd 2 (.pv .bool :: (dd 2 (.ptr 50 [] :: (dd 4 (.ptr 51 [] :: (dd 69 [])))))), [⟨50, s24, .imm, true, false⟩, ⟨51, s59, (.pr .imm (.pr (.own (.own (.pr (.own .imm) .imm))) .imm)), true, false⟩]⟩⟩]
def zA9.sk11 : Skel := ⟨dd 2 (.pv .bool :: (dd 2 (.ptr 50 [] :: (dd 4 (.ptr 51 [] :: (dd 1 (.ov 52 [] :: (.pv (.int .i64) :: (.pv (.int .i64) :: (.pv (.int .i64) :: (dd 64 []))))))))))), [⟨50, s24, .imm, true, false⟩, ⟨51, s59, (.pr .imm (.pr (.own (.own (.pr (.own .imm) .imm))) .imm)), true, false⟩, ⟨52, s53, (.own .imm), false, false⟩]⟩
def zA9.xs11 : List XS := [⟨.exit 2, [10, 12], ⟨dd 10 (.ptr 50 [] :: (dd 1 (.ov 51 [] :: (dd 67 [])))), [⟨50, s59, (.pr .imm (.pr (.own (.own (.pr (.own .imm) .imm))) .imm)), true, false⟩, ⟨51, s53, (.own .imm), false, false⟩]⟩⟩]
def zA9.con (N : Nat) : Con := { modes := [.v, .v, .v, .v], ptrs := [true, false], fn := fn4 s23 .imm s24 .imm .bool .imm (.int .i64) .imm (zA9 N) (fun r => [⟨s59, .imm, r.1⟩, ⟨s53, .imm, r.2⟩]) (fun r => []) }
def zA9.cfg (N : Nat) : Cfg := { ty := tys, keep := [21, 33, 35, 41, 46, 72, 75], flt := [], elm := elm0, live := [(11, [2, 5, 10, 12, 13, 14, 15]), (4, [0, 2, 5, 10, 11])], ord := [], con := [((42, [.one]), zAL.con N), ((43, [.one, .one, .one]), zA4.con N), ((44, [.one]), zAO.con N), ((45, [.one, .one]), zBP.con N), ((24, [.one, .one]), zBD.con N)], loops := [(4, loopCon N zA9.sk4 zA9.xs4 (fun {R} => zA9.l4 (R := R) N)), (11, loopCon N zA9.sk11 zA9.xs11 (fun {R} => zA9.l11 (R := R) N))], joins := [(12, [⟨.normal, [2, 5, 10, 12, 13, 14, 15], ⟨dd 2 (.pv .bool :: (dd 2 (.ptr 50 [] :: (dd 4 (.ptr 51 [] :: (dd 1 (.ov 52 [] :: (.pv (.int .i64) :: (.pv (.int .i64) :: (.pv (.int .i64) :: (dd 64 []))))))))))), [⟨50, s24, .imm, true, false⟩, ⟨51, s59, (.pr .imm (.pr (.own (.own (.pr (.own .imm) .imm))) .imm)), true, false⟩, ⟨52, s53, (.own .imm), false, false⟩]⟩⟩])] }
theorem zA9.cons (N : Nat) : ConsOk Try.prog (zA9.cfg N).con := (consOk_cons (hb42) (zAL.ok N) (zAL.det N) (consOk_cons (hb43) (zA4.ok N) (zA4.det N) (consOk_cons (hb44) (zAO.ok N) (zAO.det N) (consOk_cons (hb45) (zBP.ok N) (zBP.det N) (consOk_cons (hb24) (zBD.ok N) (zBD.det N) consOk_nil)))))
theorem zA9.h11 {R : Type} (N : Nat) (d : zA9.sk11.D) (kn : zA9.sk11.D → Option R) (kx : XD zA9.xs11 → Option R) : roundK (zA9.cfg N) N (nthLoop (fnBody Try.f22) 1) zA9.sk11 zA9.xs11 d kn kx = zA9.l11 N d kn kx := by kernel_rfl
theorem zA9.i11 (N : Nat) : LoopsOk Try.prog (zA9.cfg N) (nthLoop (fnBody Try.f22) 1) := loopsL (l := []) (by kernel_rfl) trivial
theorem zA9.o11 (N : Nat) : LoopOk Try.prog (nthLoop (fnBody Try.f22) 1) (loopCon N zA9.sk11 zA9.xs11 (fun {R} => zA9.l11 (R := R) N)) := loop_ok (g := zA9.cfg N) tys_ok (zA9.cons N) mixed (zA9.i11 N) (fun d kn kx => zA9.h11 N d kn kx)
theorem zA9.h4 {R : Type} (N : Nat) (d : zA9.sk4.D) (kn : zA9.sk4.D → Option R) (kx : XD zA9.xs4 → Option R) : roundK (zA9.cfg N) N (nthLoop (fnBody Try.f22) 0) zA9.sk4 zA9.xs4 d kn kx = zA9.l4 N d kn kx := by kernel_rfl
theorem zA9.i4 (N : Nat) : LoopsOk Try.prog (zA9.cfg N) (nthLoop (fnBody Try.f22) 0) := loopsL (l := []) (by kernel_rfl) trivial
theorem zA9.o4 (N : Nat) : LoopOk Try.prog (nthLoop (fnBody Try.f22) 0) (loopCon N zA9.sk4 zA9.xs4 (fun {R} => zA9.l4 (R := R) N)) := loop_ok (g := zA9.cfg N) tys_ok (zA9.cons N) mixed (zA9.i4 N) (fun d kn kx => zA9.h4 N d kn kx)
theorem zA9.ls (N : Nat) : LoopsOk Try.prog (zA9.cfg N) (fnBody Try.f22) := loopsL (l := [nthLoop (fnBody Try.f22) 0, nthLoop (fnBody Try.f22) 1]) (by kernel_rfl) ⟨loopOne (L0 := loopCon N zA9.sk4 zA9.xs4 (fun {R} => zA9.l4 (R := R) N)) (id := 4) (by kernel_rfl) (by kernel_rfl) (zA9.o4 N), ⟨loopOne (L0 := loopCon N zA9.sk11 zA9.xs11 (fun {R} => zA9.l11 (R := R) N)) (id := 11) (by kernel_rfl) (by kernel_rfl) (zA9.o11 N), trivial⟩⟩
theorem zA9.q11 {R R' : Type} {N n : Nat} {d} {k} {g : R → Option R'} : bindF (loopP (zA9.l11 N) n d k) g = loopP (zA9.l11 N) n d fun e => bindF (k e) g := bindF_loopP (fun d kn kx => by simp only [zA9.l11, bindF_ifB, bindF_bindO, bindF_pure, bindF_none, bindF_onSum]) n d k
theorem zA9.q4 {R R' : Type} {N n : Nat} {d} {k} {g : R → Option R'} : bindF (loopP (zA9.l4 N) n d k) g = loopP (zA9.l4 N) n d fun e => bindF (k e) g := bindF_loopP (fun d kn kx => by simp only [zA9.l4, bindF_ifB, bindF_bindO, bindF_pure, bindF_none, bindF_onSum]) n d k
theorem zA9.b (N : Nat) (x0 : den s23) (x1 : den s24) (x2 : den .bool) (x3 : den (.int .i64)) : body (zA9.cfg N) N Try.f22 [.one, .one, .one, .one] [.v, .v, .v, .v] [(true, .imm), (false, .imm)] [⟨s23, .imm, x0⟩, ⟨s24, .imm, x1⟩, ⟨.bool, .imm, x2⟩, ⟨(.int .i64), .imm, x3⟩] (fun r i => some (r, i)) = bindO (zA9 N x0 x1 x2 x3) fun r => some ([⟨s59, .imm, r.1⟩, ⟨s53, .imm, r.2⟩], []) := by
  show _ = bindF _ _
  conv => rhs; simp only [zA9, bindF_ifB, bindF_bindO, bindF_pure, bindF_none, bindF_onSum, zA9.q4, zA9.q11]
  kernel_rfl
theorem zA9.ok (N : Nat) : ConOk Try.prog 22 [.one, .one, .one, .one] (zA9.con N) := ok4 (g := zA9.cfg N) (N := N) (res := [(true, .imm), (false, .imm)]) tys_ok (zA9.cons N) mixed Try.func22 (zA9.ls N) rfl (zA9.b N)
theorem zA9.det (N : Nat) : ConDet (zA9.con N) := det4
end Go.AE.F
end
