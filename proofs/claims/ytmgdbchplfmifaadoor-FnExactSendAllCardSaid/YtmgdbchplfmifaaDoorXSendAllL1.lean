/- The printed functions are what the program comes to: contracts. -/
import Derived.Test.YtmgdbchplfmifaaDoorXSendAllL0
noncomputable section
namespace Go.AE.F
open Go.AE Go.Proofs
set_option maxRecDepth 100000
def zB3.con (N : Nat) : Con := { modes := [.v], ptrs := [false], fn := fn1 s41 .imm (zB3 N) (fun r => [⟨.bool, .imm, r⟩]) (fun r => []) }
def zB3.cfg (N : Nat) : Cfg := { ty := tys, keep := [12], flt := [], elm := elm0, live := [], ord := [], con := [((53, [.one]), zB4.con N)], loops := [], joins := [] }
theorem zB3.cons (N : Nat) : ConsOk Tryd.prog (zB3.cfg N).con := (consOk_cons (hb53) (zB4.ok N) (zB4.det N) consOk_nil)
theorem zB3.ls (N : Nat) : LoopsOk Tryd.prog (zB3.cfg N) (fnBody Tryd.f37) := loopsL (l := []) (by kernel_rfl) trivial
theorem zB3.b (N : Nat) (x0 : den s41) : body (zB3.cfg N) N Tryd.f37 [.one] [.v] [(false, .imm)] [⟨s41, .imm, x0⟩] (fun r i => some (r, i)) = bindO (zB3 N x0) fun r => some ([⟨.bool, .imm, r⟩], []) := by
  show _ = bindF _ _
  conv => rhs; simp only [zB3, bindF_ifB, bindF_bindO, bindF_pure, bindF_none, bindF_onSum]
  kernel_rfl
theorem zB3.ok (N : Nat) : ConOk Tryd.prog 37 [.one] (zB3.con N) := ok1 (g := zB3.cfg N) (N := N) (res := [(false, .imm)]) tys_ok (zB3.cons N) mixed Tryd.func37 (zB3.ls N) rfl (zB3.b N)
theorem zB3.det (N : Nat) : ConDet (zB3.con N) := det1
def zA8.sk4 : Skel := ⟨dd 1 (.ptr 50 [] :: (dd 1 (.pv (.int .i64) :: (dd 114 [])))), [⟨50, s28, .imm, true, false⟩]⟩
def zA8.xs4 : List XS := [⟨.exit 0, [], ⟨dd 118 [], []⟩⟩, ⟨.ret, [2], ⟨dd 2 (.pv .bool :: (dd 115 [])), []⟩⟩]
def zA8.con (N : Nat) : Con := { modes := [.v], ptrs := [false], fn := fn1 s28 .imm (zA8 N) (fun r => [⟨.bool, .imm, r⟩]) (fun r => []) }
def zA8.cfg (N : Nat) : Cfg := { ty := tys, keep := [9, 81, 84], flt := [], elm := elm0, live := [(4, [1, 3])], ord := [(9, [0, 1, 2, 3, 4, 5, 6, 7, 8, 9, 10, 11, 12, 13, 14, 15, 16, 17, 18, 19, 20, 21, 22, 23, 24, 25, 26, 27, 28, 29, 30, 31, 32, 33, 34])], con := [((23, [.one, .one]), zB2.con N), ((36, [.one]), zAG.con N), ((37, [.one]), zB3.con N)], loops := [(4, loopCon N zA8.sk4 zA8.xs4 (fun {R} => zA8.l4 (R := R) N))], joins := [(5, [⟨.normal, [1, 3], ⟨dd 1 (.ptr 50 [] :: (dd 1 (.pv (.int .i64) :: (dd 114 [])))), [⟨50, s28, .imm, true, false⟩]⟩⟩, ⟨.ret, [2], ⟨dd 2 (.pv .bool :: (dd 115 [])), []⟩⟩])] }
theorem zA8.cons (N : Nat) : ConsOk Tryd.prog (zA8.cfg N).con := (consOk_cons (hb23) (zB2.ok N) (zB2.det N) (consOk_cons (hb36) (zAG.ok N) (zAG.det N) (consOk_cons (hb37) (zB3.ok N) (zB3.det N) consOk_nil)))
theorem zA8.h4 {R : Type} (N : Nat) (d : zA8.sk4.D) (kn : zA8.sk4.D → Option R) (kx : XD zA8.xs4 → Option R) : roundK (zA8.cfg N) N (nthLoop (fnBody Tryd.f18) 0) zA8.sk4 zA8.xs4 d kn kx = zA8.l4 N d kn kx := by kernel_rfl
theorem zA8.i4 (N : Nat) : LoopsOk Tryd.prog (zA8.cfg N) (nthLoop (fnBody Tryd.f18) 0) := loopsL (l := []) (by kernel_rfl) trivial
theorem zA8.o4 (N : Nat) : LoopOk Tryd.prog (nthLoop (fnBody Tryd.f18) 0) (loopCon N zA8.sk4 zA8.xs4 (fun {R} => zA8.l4 (R := R) N)) := loop_ok (g := zA8.cfg N) tys_ok (zA8.cons N) mixed (zA8.i4 N) (fun d kn kx => zA8.h4 N d kn kx)
theorem zA8.ls (N : Nat) : LoopsOk Tryd.prog (zA8.cfg N) (fnBody Tryd.f18) := loopsL (l := [nthLoop (fnBody Tryd.f18) 0]) (by kernel_rfl) ⟨loopOne (L0 := loopCon N zA8.sk4 zA8.xs4 (fun {R} => zA8.l4 (R := R) N)) (id := 4) (by kernel_rfl) (by kernel_rfl) (zA8.o4 N), trivial⟩
theorem zA8.q4 {R R' : Type} {N n : Nat} {d} {k} {g : R → Option R'} : bindF (loopP (zA8.l4 N) n d k) g = loopP (zA8.l4 N) n d fun e => bindF (k e) g := bindF_loopP (fun d kn kx => by simp only [zA8.l4, bindF_ifB, bindF_bindO, bindF_pure, bindF_none, bindF_onSum]) n d k
theorem zA8.b (N : Nat) (x0 : den s28) : body (zA8.cfg N) N Tryd.f18 [.one] [.v] [(false, .imm)] [⟨s28, .imm, x0⟩] (fun r i => some (r, i)) = bindO (zA8 N x0) fun r => some ([⟨.bool, .imm, r⟩], []) := by
  show _ = bindF _ _
  conv => rhs; simp only [zA8, bindF_ifB, bindF_bindO, bindF_pure, bindF_none, bindF_onSum, zA8.q4]
  kernel_rfl
theorem zA8.ok (N : Nat) : ConOk Tryd.prog 18 [.one] (zA8.con N) := ok1 (g := zA8.cfg N) (N := N) (res := [(false, .imm)]) tys_ok (zA8.cons N) mixed Tryd.func18 (zA8.ls N) rfl (zA8.b N)
theorem zA8.det (N : Nat) : ConDet (zA8.con N) := det1
def zBC.con (N : Nat) : Con := { modes := [.v, .v], ptrs := [false], fn := fn2 s28 .imm (.int .i64) .imm (zBC N) (fun r => [⟨.bool, .imm, r⟩]) (fun r => []) }
def zBC.cfg (N : Nat) : Cfg := { ty := tys, keep := [17], flt := [], elm := elm0, live := [], ord := [], con := [((37, [.one]), zB3.con N)], loops := [], joins := [] }
theorem zBC.cons (N : Nat) : ConsOk Tryd.prog (zBC.cfg N).con := (consOk_cons (hb37) (zB3.ok N) (zB3.det N) consOk_nil)
theorem zBC.ls (N : Nat) : LoopsOk Tryd.prog (zBC.cfg N) (fnBody Tryd.f19) := loopsL (l := []) (by kernel_rfl) trivial
theorem zBC.b (N : Nat) (x0 : den s28) (x1 : den (.int .i64)) : body (zBC.cfg N) N Tryd.f19 [.one, .one] [.v, .v] [(false, .imm)] [⟨s28, .imm, x0⟩, ⟨(.int .i64), .imm, x1⟩] (fun r i => some (r, i)) = bindO (zBC N x0 x1) fun r => some ([⟨.bool, .imm, r⟩], []) := by
  show _ = bindF _ _
  conv => rhs; simp only [zBC, bindF_ifB, bindF_bindO, bindF_pure, bindF_none, bindF_onSum]
  kernel_rfl
theorem zBC.ok (N : Nat) : ConOk Tryd.prog 19 [.one, .one] (zBC.con N) := ok2 (g := zBC.cfg N) (N := N) (res := [(false, .imm)]) tys_ok (zBC.cons N) mixed Tryd.func19 (zBC.ls N) rfl (zBC.b N)
theorem zBC.det (N : Nat) : ConDet (zBC.con N) := det2
def zA2.sk4 : Skel := ⟨dd 1 (.ptr 50 [] :: (dd 1 (.pv (.int .i64) :: (dd 52 [])))), [⟨50, s28, .imm, true, false⟩]⟩
def zA2.xs4 : List XS := [⟨.exit 0, [], ⟨dd 56 [], []⟩⟩, ⟨.ret, [2], ⟨dd 2 (.pv .bool :: (dd 53 [])), []⟩⟩]
def zA2.sk8 : Skel := ⟨dd 1 (.ptr 50 [] :: (dd 1 (.pv (.int .i64) :: (.pv .bool :: (.pv (.int .i64) :: (dd 50 [])))))), [⟨50, s28, .imm, true, false⟩]⟩
def zA2.xs8 : List XS := [⟨.exit 2, [1, 3], ⟨dd 1 (.ptr 50 [] :: (dd 1 (.pv (.int .i64) :: (dd 52 [])))), [⟨50, s28, .imm, true, false⟩]⟩⟩, ⟨.ret, [2], ⟨dd 2 (.pv .bool :: (dd 53 [])), []⟩⟩]
def zA2.con (N : Nat) : Con := { modes := [.v], ptrs := [false], fn := fn1 s28 .imm (zA2 N) (fun r => [⟨.bool, .imm, r⟩]) (fun r => []) }
def zA2.cfg (N : Nat) : Cfg := { ty := tys, keep := [8, 39], flt := [], elm := elm0, live := [(8, [1, 3, 4, 5]), (4, [1, 3])], ord := [], con := [((18, [.one]), zA8.con N), ((19, [.one, .one]), zBC.con N)], loops := [(4, loopCon N zA2.sk4 zA2.xs4 (fun {R} => zA2.l4 (R := R) N)), (8, loopCon N zA2.sk8 zA2.xs8 (fun {R} => zA2.l8 (R := R) N))], joins := [(9, [⟨.normal, [1, 3, 4, 5], ⟨dd 1 (.ptr 50 [] :: (dd 1 (.pv (.int .i64) :: (.pv .bool :: (.pv (.int .i64) :: (dd 50 [])))))), [⟨50, s28, .imm, true, false⟩]⟩⟩, ⟨.ret, [2], ⟨dd 2 (.pv .bool :: (dd 53 [])), []⟩⟩])] }
theorem zA2.cons (N : Nat) : ConsOk Tryd.prog (zA2.cfg N).con := (consOk_cons (hb18) (zA8.ok N) (zA8.det N) (consOk_cons (hb19) (zBC.ok N) (zBC.det N) consOk_nil))
theorem zA2.h8 {R : Type} (N : Nat) (d : zA2.sk8.D) (kn : zA2.sk8.D → Option R) (kx : XD zA2.xs8 → Option R) : roundK (zA2.cfg N) N (nthLoop (fnBody Tryd.f10) 1) zA2.sk8 zA2.xs8 d kn kx = zA2.l8 N d kn kx := by kernel_rfl
theorem zA2.i8 (N : Nat) : LoopsOk Tryd.prog (zA2.cfg N) (nthLoop (fnBody Tryd.f10) 1) := loopsL (l := []) (by kernel_rfl) trivial
theorem zA2.o8 (N : Nat) : LoopOk Tryd.prog (nthLoop (fnBody Tryd.f10) 1) (loopCon N zA2.sk8 zA2.xs8 (fun {R} => zA2.l8 (R := R) N)) := loop_ok (g := zA2.cfg N) tys_ok (zA2.cons N) mixed (zA2.i8 N) (fun d kn kx => zA2.h8 N d kn kx)
theorem zA2.h4 {R : Type} (N : Nat) (d : zA2.sk4.D) (kn : zA2.sk4.D → Option R) (kx : XD zA2.xs4 → Option R) : roundK (zA2.cfg N) N (nthLoop (fnBody Tryd.f10) 0) zA2.sk4 zA2.xs4 d kn kx = zA2.l4 N d kn kx := by kernel_rfl
theorem zA2.i4 (N : Nat) : LoopsOk Tryd.prog (zA2.cfg N) (nthLoop (fnBody Tryd.f10) 0) := loopsL (l := [nthLoop (fnBody Tryd.f10) 1]) (by kernel_rfl) ⟨loopOne (L0 := loopCon N zA2.sk8 zA2.xs8 (fun {R} => zA2.l8 (R := R) N)) (id := 8) (by kernel_rfl) (by kernel_rfl) (zA2.o8 N), trivial⟩
theorem zA2.o4 (N : Nat) : LoopOk Tryd.prog (nthLoop (fnBody Tryd.f10) 0) (loopCon N zA2.sk4 zA2.xs4 (fun {R} => zA2.l4 (R := R) N)) := loop_ok (g := zA2.cfg N) tys_ok (zA2.cons N) mixed (zA2.i4 N) (fun d kn kx => zA2.h4 N d kn kx)
theorem zA2.ls (N : Nat) : LoopsOk Tryd.prog (zA2.cfg N) (fnBody Tryd.f10) := loopsL (l := [nthLoop (fnBody Tryd.f10) 0, nthLoop (fnBody Tryd.f10) 1]) (by kernel_rfl) ⟨loopOne (L0 := loopCon N zA2.sk4 zA2.xs4 (fun {R} => zA2.l4 (R := R) N)) (id := 4) (by kernel_rfl) (by kernel_rfl) (zA2.o4 N), ⟨loopOne (L0 := loopCon N zA2.sk8 zA2.xs8 (fun {R} => zA2.l8 (R := R) N)) (id := 8) (by kernel_rfl) (by kernel_rfl) (zA2.o8 N), trivial⟩⟩
theorem zA2.q8 {R R' : Type} {N n : Nat} {d} {k} {g : R → Option R'} : bindF (loopP (zA2.l8 N) n d k) g = loopP (zA2.l8 N) n d fun e => bindF (k e) g := bindF_loopP (fun d kn kx => by simp only [zA2.l8, bindF_ifB, bindF_bindO, bindF_pure, bindF_none, bindF_onSum]) n d k
theorem zA2.q4 {R R' : Type} {N n : Nat} {d} {k} {g : R → Option R'} : bindF (loopP (zA2.l4 N) n d k) g = loopP (zA2.l4 N) n d fun e => bindF (k e) g := bindF_loopP (fun d kn kx => by simp only [zA2.l4, bindF_ifB, bindF_bindO, bindF_pure, bindF_none, bindF_onSum, zA2.q8]) n d k
theorem zA2.b (N : Nat) (x0 : den s28) : body (zA2.cfg N) N Tryd.f10 [.one] [.v] [(false, .imm)] [⟨s28, .imm, x0⟩] (fun r i => some (r, i)) = bindO (zA2 N x0) fun r => some ([⟨.bool, .imm, r⟩], []) := by
  show _ = bindF _ _
  conv => rhs; simp only [zA2, bindF_ifB, bindF_bindO, bindF_pure, bindF_none, bindF_onSum, zA2.q4, zA2.q8]
  kernel_rfl
theorem zA2.ok (N : Nat) : ConOk Tryd.prog 10 [.one] (zA2.con N) := ok1 (g := zA2.cfg N) (N := N) (res := [(false, .imm)]) tys_ok (zA2.cons N) mixed Tryd.func10 (zA2.ls N) rfl (zA2.b N)
theorem zA2.det (N : Nat) : ConDet (zA2.con N) := det1
def zBB.con (N : Nat) : Con := { modes := [.v, .v], ptrs := [false], fn := fn2 (.int .i64) .imm (.int .i64) .imm (zBB N) (fun r => [⟨s28, (.pr .imm (.pr .imm (.pr (.own .imm) .imm))), r⟩]) (fun r => []) }
def zBB.cfg (N : Nat) : Cfg := { ty := tys, keep := [7], flt := [], elm := elm0, live := [], ord := [], con := [((23, [.one, .one]), zB2.con N)], loops := [], joins := [] }
theorem zBB.cons (N : Nat) : ConsOk Tryd.prog (zBB.cfg N).con := (consOk_cons (hb23) (zB2.ok N) (zB2.det N) consOk_nil)
theorem zBB.ls (N : Nat) : LoopsOk Tryd.prog (zBB.cfg N) (fnBody Tryd.f12) := loopsL (l := []) (by kernel_rfl) trivial
theorem zBB.b (N : Nat) (x0 : den (.int .i64)) (x1 : den (.int .i64)) : body (zBB.cfg N) N Tryd.f12 [.one, .one] [.v, .v] [(false, (.pr .imm (.pr .imm (.pr (.own .imm) .imm))))] [⟨(.int .i64), .imm, x0⟩, ⟨(.int .i64), .imm, x1⟩] (fun r i => some (r, i)) = bindO (zBB N x0 x1) fun r => some ([⟨s28, (.pr .imm (.pr .imm (.pr (.own .imm) .imm))), r⟩], []) := by
  show _ = bindF _ _
  conv => rhs; simp only [zBB, bindF_ifB, bindF_bindO, bindF_pure, bindF_none, bindF_onSum]
  kernel_rfl
theorem zBB.ok (N : Nat) : ConOk Tryd.prog 12 [.one, .one] (zBB.con N) := ok2 (g := zBB.cfg N) (N := N) (res := [(false, (.pr .imm (.pr .imm (.pr (.own .imm) .imm))))]) tys_ok (zBB.cons N) mixed Tryd.func12 (zBB.ls N) rfl (zBB.b N)
theorem zBB.det (N : Nat) : ConDet (zBB.con N) := det2
def zAI.sk4 : Skel := ⟨.pv s40 :: (.pv s40 :: (dd 3 (.pv (.int .i64) :: (dd 20 [])))), []⟩
def zAI.xs4 : List XS := [⟨.exit 0, [], ⟨dd 26 [], []⟩⟩, ⟨.ret, [4], ⟨dd 4 (.pv .bool :: (dd 21 [])), []⟩⟩]
def zAI.con (N : Nat) : Con := { modes := [.v, .v], ptrs := [false], fn := fn2 s40 .imm s40 .imm (zAI N) (fun r => [⟨.bool, .imm, r⟩]) (fun r => []) }
def zAI.cfg (N : Nat) : Cfg := { ty := tys, keep := [], flt := [], elm := elm0, live := [(4, [0, 1, 5])], ord := [(6, [0, 1, 2, 3, 4, 5, 6, 7, 8])], con := [], loops := [(4, loopCon N zAI.sk4 zAI.xs4 (fun {R} => zAI.l4 (R := R) N))], joins := [] }
theorem zAI.cons (N : Nat) : ConsOk Tryd.prog (zAI.cfg N).con := consOk_nil
theorem zAI.h4 {R : Type} (N : Nat) (d : zAI.sk4.D) (kn : zAI.sk4.D → Option R) (kx : XD zAI.xs4 → Option R) : roundK (zAI.cfg N) N (nthLoop (fnBody Tryd.f20) 0) zAI.sk4 zAI.xs4 d kn kx = zAI.l4 N d kn kx := by kernel_rfl
theorem zAI.i4 (N : Nat) : LoopsOk Tryd.prog (zAI.cfg N) (nthLoop (fnBody Tryd.f20) 0) := loopsL (l := []) (by kernel_rfl) trivial
theorem zAI.o4 (N : Nat) : LoopOk Tryd.prog (nthLoop (fnBody Tryd.f20) 0) (loopCon N zAI.sk4 zAI.xs4 (fun {R} => zAI.l4 (R := R) N)) := loop_ok (g := zAI.cfg N) tys_ok (zAI.cons N) mixed (zAI.i4 N) (fun d kn kx => zAI.h4 N d kn kx)
theorem zAI.ls (N : Nat) : LoopsOk Tryd.prog (zAI.cfg N) (fnBody Tryd.f20) := loopsL (l := [nthLoop (fnBody Tryd.f20) 0]) (by kernel_rfl) ⟨loopOne (L0 := loopCon N zAI.sk4 zAI.xs4 (fun {R} => zAI.l4 (R := R) N)) (id := 4) (by kernel_rfl) (by kernel_rfl) (zAI.o4 N), trivial⟩
theorem zAI.q4 {R R' : Type} {N n : Nat} {d} {k} {g : R → Option R'} : bindF (loopP (zAI.l4 N) n d k) g = loopP (zAI.l4 N) n d fun e => bindF (k e) g := bindF_loopP (fun d kn kx => by simp only [zAI.l4, bindF_ifB, bindF_bindO, bindF_pure, bindF_none, bindF_onSum]) n d k
theorem zAI.b (N : Nat) (x0 : den s40) (x1 : den s40) : body (zAI.cfg N) N Tryd.f20 [.one, .one] [.v, .v] [(false, .imm)] [⟨s40, .imm, x0⟩, ⟨s40, .imm, x1⟩] (fun r i => some (r, i)) = bindO (zAI N x0 x1) fun r => some ([⟨.bool, .imm, r⟩], []) := by
  show _ = bindF _ _
  conv => rhs; simp only [zAI, bindF_ifB, bindF_bindO, bindF_pure, bindF_none, bindF_onSum, zAI.q4]
  kernel_rfl
theorem zAI.ok (N : Nat) : ConOk Tryd.prog 20 [.one, .one] (zAI.con N) := ok2 (g := zAI.cfg N) (N := N) (res := [(false, .imm)]) tys_ok (zAI.cons N) mixed Tryd.func20 (zAI.ls N) rfl (zAI.b N)
theorem zAI.det (N : Nat) : ConDet (zAI.con N) := det2
def zA3.sk5 : Skel := ⟨.pv (.int .i64) :: (dd 2 (.pv .bool :: (.pv .str :: (dd 26 [])))), []⟩
def zA3.xs5 : List XS := [⟨.exit 0, [3, 4], ⟨dd 3 (.pv .bool :: (.pv .str :: (dd 26 []))), []⟩⟩]
def zA3.con (N : Nat) : Con := { modes := [.v], ptrs := [false], fn := fn1 (.int .i64) .imm (zA3 N) (fun r => [⟨.str, .imm, r⟩]) (fun r => []) }
def zA3.cfg (N : Nat) : Cfg := { ty := tys, keep := [], flt := [], elm := elm0, live := [(5, [0, 3, 4])], ord := [], con := [], loops := [(5, loopCon N zA3.sk5 zA3.xs5 (fun {R} => zA3.l5 (R := R) N))], joins := [] }
theorem zA3.cons (N : Nat) : ConsOk Tryd.prog (zA3.cfg N).con := consOk_nil
theorem zA3.h5 {R : Type} (N : Nat) (d : zA3.sk5.D) (kn : zA3.sk5.D → Option R) (kx : XD zA3.xs5 → Option R) : roundK (zA3.cfg N) N (nthLoop (fnBody Tryd.f22) 0) zA3.sk5 zA3.xs5 d kn kx = zA3.l5 N d kn kx := by kernel_rfl
theorem zA3.i5 (N : Nat) : LoopsOk Tryd.prog (zA3.cfg N) (nthLoop (fnBody Tryd.f22) 0) := loopsL (l := []) (by kernel_rfl) trivial
theorem zA3.o5 (N : Nat) : LoopOk Tryd.prog (nthLoop (fnBody Tryd.f22) 0) (loopCon N zA3.sk5 zA3.xs5 (fun {R} => zA3.l5 (R := R) N)) := loop_ok (g := zA3.cfg N) tys_ok (zA3.cons N) mixed (zA3.i5 N) (fun d kn kx => zA3.h5 N d kn kx)
theorem zA3.ls (N : Nat) : LoopsOk Tryd.prog (zA3.cfg N) (fnBody Tryd.f22) := loopsL (l := [nthLoop (fnBody Tryd.f22) 0]) (by kernel_rfl) ⟨loopOne (L0 := loopCon N zA3.sk5 zA3.xs5 (fun {R} => zA3.l5 (R := R) N)) (id := 5) (by kernel_rfl) (by kernel_rfl) (zA3.o5 N), trivial⟩
theorem zA3.q5 {R R' : Type} {N n : Nat} {d} {k} {g : R → Option R'} : bindF (loopP (zA3.l5 N) n d k) g = loopP (zA3.l5 N) n d fun e => bindF (k e) g := bindF_loopP (fun d kn kx => by simp only [zA3.l5, bindF_ifB, bindF_bindO, bindF_pure, bindF_none, bindF_onSum]) n d k
theorem zA3.b (N : Nat) (x0 : den (.int .i64)) : body (zA3.cfg N) N Tryd.f22 [.one] [.v] [(false, .imm)] [⟨(.int .i64), .imm, x0⟩] (fun r i => some (r, i)) = bindO (zA3 N x0) fun r => some ([⟨.str, .imm, r⟩], []) := by
  show _ = bindF _ _
  conv => rhs; simp only [zA3, bindF_ifB, bindF_bindO, bindF_pure, bindF_none, bindF_onSum, zA3.q5]
  kernel_rfl
theorem zA3.ok (N : Nat) : ConOk Tryd.prog 22 [.one] (zA3.con N) := ok1 (g := zA3.cfg N) (N := N) (res := [(false, .imm)]) tys_ok (zA3.cons N) mixed Tryd.func22 (zA3.ls N) rfl (zA3.b N)
theorem zA3.det (N : Nat) : ConDet (zA3.con N) := det1
def zB7.con (N : Nat) : Con := { modes := [.v], ptrs := [false], fn := fn1 (.int .i64) .imm (zB7 N) (fun r => [⟨s45, (.own .imm), r⟩]) (fun r => []) }
def zB7.cfg (N : Nat) : Cfg := { ty := tys, keep := [], flt := [], elm := elm0, live := [], ord := [], con := [], loops := [], joins := [] }
theorem zB7.cons (N : Nat) : ConsOk Tryd.prog (zB7.cfg N).con := consOk_nil
theorem zB7.ls (N : Nat) : LoopsOk Tryd.prog (zB7.cfg N) (fnBody Tryd.f54) := loopsL (l := []) (by kernel_rfl) trivial
theorem zB7.b (N : Nat) (x0 : den (.int .i64)) : body (zB7.cfg N) N Tryd.f54 [.one] [.v] [(false, (.own .imm))] [⟨(.int .i64), .imm, x0⟩] (fun r i => some (r, i)) = bindO (zB7 N x0) fun r => some ([⟨s45, (.own .imm), r⟩], []) := by
  show _ = bindF _ _
  conv => rhs; simp only [zB7, bindF_ifB, bindF_bindO, bindF_pure, bindF_none, bindF_onSum]
  kernel_rfl
theorem zB7.ok (N : Nat) : ConOk Tryd.prog 54 [.one] (zB7.con N) := ok1 (g := zB7.cfg N) (N := N) (res := [(false, (.own .imm))]) tys_ok (zB7.cons N) mixed Tryd.func54 (zB7.ls N) rfl (zB7.b N)
theorem zB7.det (N : Nat) : ConDet (zB7.con N) := det1
def zAF.sk3 : Skel := ⟨.pv s40 :: (dd 2 (.ov 50 [] :: (.pv (.int .i64) :: (dd 16 [])))), [⟨50, s45, (.own .imm), false, false⟩]⟩
def zAF.xs3 : List XS := [⟨.exit 0, [3], ⟨dd 3 (.ov 50 [] :: (dd 17 [])), [⟨50, s45, (.own .imm), false, false⟩]⟩⟩]
def zAF.con (N : Nat) : Con := { modes := [.v], ptrs := [false], fn := fn1 s40 .imm (zAF N) (fun r => [⟨.str, .imm, r⟩]) (fun r => []) }
def zAF.cfg (N : Nat) : Cfg := { ty := tys, keep := [17], flt := [], elm := elm0, live := [(3, [0, 3, 4])], ord := [], con := [((54, [.one]), zB7.con N)], loops := [(3, loopCon N zAF.sk3 zAF.xs3 (fun {R} => zAF.l3 (R := R) N))], joins := [] }
theorem zAF.cons (N : Nat) : ConsOk Tryd.prog (zAF.cfg N).con := (consOk_cons (hb54) (zB7.ok N) (zB7.det N) consOk_nil)
theorem zAF.h3 {R : Type} (N : Nat) (d : zAF.sk3.D) (kn : zAF.sk3.D → Option R) (kx : XD zAF.xs3 → Option R) : roundK (zAF.cfg N) N (nthLoop (fnBody Tryd.f38) 0) zAF.sk3 zAF.xs3 d kn kx = zAF.l3 N d kn kx := by kernel_rfl
theorem zAF.i3 (N : Nat) : LoopsOk Tryd.prog (zAF.cfg N) (nthLoop (fnBody Tryd.f38) 0) := loopsL (l := []) (by kernel_rfl) trivial
theorem zAF.o3 (N : Nat) : LoopOk Tryd.prog (nthLoop (fnBody Tryd.f38) 0) (loopCon N zAF.sk3 zAF.xs3 (fun {R} => zAF.l3 (R := R) N)) := loop_ok (g := zAF.cfg N) tys_ok (zAF.cons N) mixed (zAF.i3 N) (fun d kn kx => zAF.h3 N d kn kx)
theorem zAF.ls (N : Nat) : LoopsOk Tryd.prog (zAF.cfg N) (fnBody Tryd.f38) := loopsL (l := [nthLoop (fnBody Tryd.f38) 0]) (by kernel_rfl) ⟨loopOne (L0 := loopCon N zAF.sk3 zAF.xs3 (fun {R} => zAF.l3 (R := R) N)) (id := 3) (by kernel_rfl) (by kernel_rfl) (zAF.o3 N), trivial⟩
theorem zAF.q3 {R R' : Type} {N n : Nat} {d} {k} {g : R → Option R'} : bindF (loopP (zAF.l3 N) n d k) g = loopP (zAF.l3 N) n d fun e => bindF (k e) g := bindF_loopP (fun d kn kx => by simp only [zAF.l3, bindF_ifB, bindF_bindO, bindF_pure, bindF_none, bindF_onSum]) n d k
theorem zAF.b (N : Nat) (x0 : den s40) : body (zAF.cfg N) N Tryd.f38 [.one] [.v] [(false, .imm)] [⟨s40, .imm, x0⟩] (fun r i => some (r, i)) = bindO (zAF N x0) fun r => some ([⟨.str, .imm, r⟩], []) := by
  show _ = bindF _ _
  conv => rhs; simp only [zAF, bindF_ifB, bindF_bindO, bindF_pure, bindF_none, bindF_onSum, zAF.q3]
  kernel_rfl
theorem zAF.ok (N : Nat) : ConOk Tryd.prog 38 [.one] (zAF.con N) := ok1 (g := zAF.cfg N) (N := N) (res := [(false, .imm)]) tys_ok (zAF.cons N) mixed Tryd.func38 (zAF.ls N) rfl (zAF.b N)
theorem zAF.det (N : Nat) : ConDet (zAF.con N) := det1
def zAO.sk4 : Skel := ⟨dd 1 (.pv (.int .i64) :: (.ptr 50 [] :: (dd 2 (.ov 51 [] :: (.pv (.int .i64) :: (.pv (.int .i64) :: (dd 50 []))))))), [⟨50, s28, .imm, true, false⟩, ⟨51, s45, (.own .imm), false, false⟩]⟩
def zAO.xs4 : List XS := [⟨.exit 0, [5, 6], ⟨dd 5 (.ov 50 [] :: (.pv (.int .i64) :: (dd 51 []))), [⟨50, s45, (.own .imm), false, false⟩]⟩⟩]
def zAO.con (N : Nat) : Con := { modes := [.v, .v], ptrs := [false], fn := fn2 s28 .imm (.int .i64) .imm (zAO N) (fun r => [⟨s45, (.own .imm), r⟩]) (fun r => []) }
def zAO.cfg (N : Nat) : Cfg := { ty := tys, keep := [11, 42, 51], flt := [], elm := elm0, live := [(4, [1, 2, 5, 6, 7])], ord := [], con := [((22, [.one]), zA3.con N), ((38, [.one]), zAF.con N)], loops := [(4, loopCon N zAO.sk4 zAO.xs4 (fun {R} => zAO.l4 (R := R) N))], joins := [(5, [⟨.normal, [1, 2, 5, 6, 7], ⟨dd 1 (.pv (.int .i64) :: (.ptr 50 [] :: (dd 2 (.ov 51 [] :: (.pv (.int .i64) :: (.pv (.int .i64) :: (dd 50 []))))))), [⟨50, s28, .imm, true, false⟩, ⟨51, s45, (.own .imm), false, false⟩]⟩⟩])] }
theorem zAO.cons (N : Nat) : ConsOk Tryd.prog (zAO.cfg N).con := (consOk_cons (hb22) (zA3.ok N) (zA3.det N) (consOk_cons (hb38) (zAF.ok N) (zAF.det N) consOk_nil))
theorem zAO.h4 {R : Type} (N : Nat) (d : zAO.sk4.D) (kn : zAO.sk4.D → Option R) (kx : XD zAO.xs4 → Option R) : roundK (zAO.cfg N) N (nthLoop (fnBody Tryd.f21) 0) zAO.sk4 zAO.xs4 d kn kx = zAO.l4 N d kn kx := by kernel_rfl
theorem zAO.i4 (N : Nat) : LoopsOk Tryd.prog (zAO.cfg N) (nthLoop (fnBody Tryd.f21) 0) := loopsL (l := []) (by kernel_rfl) trivial
theorem zAO.o4 (N : Nat) : LoopOk Tryd.prog (nthLoop (fnBody Tryd.f21) 0) (loopCon N zAO.sk4 zAO.xs4 (fun {R} => zAO.l4 (R := R) N)) := loop_ok (g := zAO.cfg N) tys_ok (zAO.cons N) mixed (zAO.i4 N) (fun d kn kx => zAO.h4 N d kn kx)
theorem zAO.ls (N : Nat) : LoopsOk Tryd.prog (zAO.cfg N) (fnBody Tryd.f21) := loopsL (l := [nthLoop (fnBody Tryd.f21) 0]) (by kernel_rfl) ⟨loopOne (L0 := loopCon N zAO.sk4 zAO.xs4 (fun {R} => zAO.l4 (R := R) N)) (id := 4) (by kernel_rfl) (by kernel_rfl) (zAO.o4 N), trivial⟩
theorem zAO.q4 {R R' : Type} {N n : Nat} {d} {k} {g : R → Option R'} : bindF (loopP (zAO.l4 N) n d k) g = loopP (zAO.l4 N) n d fun e => bindF (k e) g := bindF_loopP (fun d kn kx => by simp only [zAO.l4, bindF_ifB, bindF_bindO, bindF_pure, bindF_none, bindF_onSum]) n d k
theorem zAO.b (N : Nat) (x0 : den s28) (x1 : den (.int .i64)) : body (zAO.cfg N) N Tryd.f21 [.one, .one] [.v, .v] [(false, (.own .imm))] [⟨s28, .imm, x0⟩, ⟨(.int .i64), .imm, x1⟩] (fun r i => some (r, i)) = bindO (zAO N x0 x1) fun r => some ([⟨s45, (.own .imm), r⟩], []) := by
  show _ = bindF _ _
  conv => rhs; simp only [zAO, bindF_ifB, bindF_bindO, bindF_pure, bindF_none, bindF_onSum, zAO.q4]
  kernel_rfl
theorem zAO.ok (N : Nat) : ConOk Tryd.prog 21 [.one, .one] (zAO.con N) := ok2 (g := zAO.cfg N) (N := N) (res := [(false, (.own .imm))]) tys_ok (zAO.cons N) mixed Tryd.func21 (zAO.ls N) rfl (zAO.b N)
theorem zAO.det (N : Nat) : ConDet (zAO.con N) := det2
def zAB.sk5 : Skel := ⟨dd 2 (.ptr 50 [] :: (.ptr 51 [] :: (dd 1 (.ov 52 [] :: (.pv (.int .i64) :: (dd 114 [])))))), [⟨50, s28, .imm, true, false⟩, ⟨51, s28, .imm, true, false⟩, ⟨52, s45, (.own .imm), false, false⟩]⟩
def zAB.xs5 : List XS := [⟨.exit 0, [2, 3, 5], ⟨dd 2 (.ptr 50 [] :: (.ptr 51 [] :: (dd 1 (.ov 52 [] :: (dd 115 []))))), [⟨50, s28, .imm, true, false⟩, ⟨51, s28, .imm, true, false⟩, ⟨52, s45, (.own .imm), false, false⟩]⟩⟩]
def zAB.sk9 : Skel := ⟨dd 2 (.ptr 50 [] :: (.ptr 51 [] :: (dd 1 (.ov 52 [] :: (.pv (.int .i64) :: (.pv .bool :: (.pv (.int .i64) :: (dd 112 [])))))))), [⟨50, s28, .imm, true, false⟩, ⟨51, s28, .imm, true, false⟩, ⟨52, s45, (.own .imm), false, false⟩]⟩
def zAB.xs9 : List XS := [⟨.exit 2, [2, 3, 5, 6, 7], ⟨dd 2 (.ptr 50 [] :: (.ptr 51 [] :: (dd 1 (.ov 52 [] :: (.pv (.int .i64) :: (.pv .bool :: (dd 113 []))))))), [⟨50, s28, .imm, true, false⟩, ⟨51, s28, .imm, true, false⟩, ⟨52, s45, (.own .imm), false, false⟩]⟩⟩]
def zAB.con (N : Nat) : Con := { modes := [.v, .v], ptrs := [false], fn := fn2 s28 .imm s28 .imm (zAB N) (fun r => [⟨.str, .imm, r⟩]) (fun r => []) }
def zAB.cfg (N : Nat) : Cfg := { ty := tys, keep := [12, 16, 79, 86, 109, 115], flt := [], elm := elm0, live := [(9, [2, 3, 5, 6, 7, 8]), (5, [2, 3, 5, 6])], ord := [(17, [0, 1, 2, 3, 7, 8, 9, 4, 5, 6, 10, 11, 12, 13, 14])], con := [((10, [.one]), zA2.con N), ((20, [.one, .one]), zAI.con N), ((21, [.one, .one]), zAO.con N), ((22, [.one]), zA3.con N)], loops := [(5, loopCon N zAB.sk5 zAB.xs5 (fun {R} => zAB.l5 (R := R) N)), (9, loopCon N zAB.sk9 zAB.xs9 (fun {R} => zAB.l9 (R := R) N))], joins := [(6, [⟨.normal, [2, 3, 5, 6], ⟨dd 2 (.ptr 50 [] :: (.ptr 51 [] :: (dd 1 (.ov 52 [] :: (.pv (.int .i64) :: (dd 114 [])))))), [⟨50, s28, .imm, true, false⟩, ⟨51, s28, .imm, true, false⟩, ⟨52, s45, (.own .imm), false, false⟩]⟩⟩])] }
theorem zAB.cons (N : Nat) : ConsOk Tryd.prog (zAB.cfg N).con := (consOk_cons (hb10) (zA2.ok N) (zA2.det N) (consOk_cons (hb20) (zAI.ok N) (zAI.det N) (consOk_cons (hb21) (zAO.ok N) (zAO.det N) (consOk_cons (hb22) (zA3.ok N) (zA3.det N) consOk_nil))))
theorem zAB.h9 {R : Type} (N : Nat) (d : zAB.sk9.D) (kn : zAB.sk9.D → Option R) (kx : XD zAB.xs9 → Option R) : roundK (zAB.cfg N) N (nthLoop (fnBody Tryd.f11) 1) zAB.sk9 zAB.xs9 d kn kx = zAB.l9 N d kn kx := by kernel_rfl
theorem zAB.i9 (N : Nat) : LoopsOk Tryd.prog (zAB.cfg N) (nthLoop (fnBody Tryd.f11) 1) := loopsL (l := []) (by kernel_rfl) trivial
theorem zAB.o9 (N : Nat) : LoopOk Tryd.prog (nthLoop (fnBody Tryd.f11) 1) (loopCon N zAB.sk9 zAB.xs9 (fun {R} => zAB.l9 (R := R) N)) := loop_ok (g := zAB.cfg N) tys_ok (zAB.cons N) mixed (zAB.i9 N) (fun d kn kx => zAB.h9 N d kn kx)
theorem zAB.h5 {R : Type} (N : Nat) (d : zAB.sk5.D) (kn : zAB.sk5.D → Option R) (kx : XD zAB.xs5 → Option R) : roundK (zAB.cfg N) N (nthLoop (fnBody Tryd.f11) 0) zAB.sk5 zAB.xs5 d kn kx = zAB.l5 N d kn kx := by kernel_rfl
theorem zAB.i5 (N : Nat) : LoopsOk Tryd.prog (zAB.cfg N) (nthLoop (fnBody Tryd.f11) 0) := loopsL (l := [nthLoop (fnBody Tryd.f11) 1]) (by kernel_rfl) ⟨loopOne (L0 := loopCon N zAB.sk9 zAB.xs9 (fun {R} => zAB.l9 (R := R) N)) (id := 9) (by kernel_rfl) (by kernel_rfl) (zAB.o9 N), trivial⟩
theorem zAB.o5 (N : Nat) : LoopOk Tryd.prog (nthLoop (fnBody Tryd.f11) 0) (loopCon N zAB.sk5 zAB.xs5 (fun {R} => zAB.l5 (R := R) N)) := loop_ok (g := zAB.cfg N) tys_ok (zAB.cons N) mixed (zAB.i5 N) (fun d kn kx => zAB.h5 N d kn kx)
theorem zAB.ls (N : Nat) : LoopsOk Tryd.prog (zAB.cfg N) (fnBody Tryd.f11) := loopsL (l := [nthLoop (fnBody Tryd.f11) 0, nthLoop (fnBody Tryd.f11) 1]) (by kernel_rfl) ⟨loopOne (L0 := loopCon N zAB.sk5 zAB.xs5 (fun {R} => zAB.l5 (R := R) N)) (id := 5) (by kernel_rfl) (by kernel_rfl) (zAB.o5 N), ⟨loopOne (L0 := loopCon N zAB.sk9 zAB.xs9 (fun {R} => zAB.l9 (R := R) N)) (id := 9) (by kernel_rfl) (by kernel_rfl) (zAB.o9 N), trivial⟩⟩
theorem zAB.q9 {R R' : Type} {N n : Nat} {d} {k} {g : R → Option R'} : bindF (loopP (zAB.l9 N) n d k) g = loopP (zAB.l9 N) n d fun e => bindF (k e) g := bindF_loopP (fun d kn kx => by simp only [zAB.l9, bindF_ifB, bindF_bindO, bindF_pure, bindF_none, bindF_onSum]) n d k
theorem zAB.q5 {R R' : Type} {N n : Nat} {d} {k} {g : R → Option R'} : bindF (loopP (zAB.l5 N) n d k) g = loopP (zAB.l5 N) n d fun e => bindF (k e) g := bindF_loopP (fun d kn kx => by simp only [zAB.l5, bindF_ifB, bindF_bindO, bindF_pure, bindF_none, bindF_onSum, zAB.q9]) n d k
theorem zAB.b (N : Nat) (x0 : den s28) (x1 : den s28) : body (zAB.cfg N) N Tryd.f11 [.one, .one] [.v, .v] [(false, .imm)] [⟨s28, .imm, x0⟩, ⟨s28, .imm, x1⟩] (fun r i => some (r, i)) = bindO (zAB N x0 x1) fun r => some ([⟨.str, .imm, r⟩], []) := by
  show _ = bindF _ _
  conv => rhs; simp only [zAB, bindF_ifB, bindF_bindO, bindF_pure, bindF_none, bindF_onSum, zAB.q5, zAB.q9]
  kernel_rfl
theorem zAB.ok (N : Nat) : ConOk Tryd.prog 11 [.one, .one] (zAB.con N) := ok2 (g := zAB.cfg N) (N := N) (res := [(false, .imm)]) tys_ok (zAB.cons N) mixed Tryd.func11 (zAB.ls N) rfl (zAB.b N)
theorem zAB.det (N : Nat) : ConDet (zAB.con N) := det2
def zBE.con (N : Nat) : Con := { modes := [.v], ptrs := [false], fn := fn1 s28 .imm (zBE N) (fun r => [⟨.str, .imm, r⟩]) (fun r => []) }
def zBE.cfg (N : Nat) : Cfg := { ty := tys, keep := [4, 10, 12], flt := [], elm := elm0, live := [], ord := [(3, [0, 1, 2, 3, 5, 4, 6, 7])], con := [((10, [.one]), zA2.con N), ((12, [.one, .one]), zBB.con N), ((11, [.one, .one]), zAB.con N)], loops := [], joins := [] }
theorem zBE.cons (N : Nat) : ConsOk Tryd.prog (zBE.cfg N).con := (consOk_cons (hb10) (zA2.ok N) (zA2.det N) (consOk_cons (hb12) (zBB.ok N) (zBB.det N) (consOk_cons (hb11) (zAB.ok N) (zAB.det N) consOk_nil)))
theorem zBE.ls (N : Nat) : LoopsOk Tryd.prog (zBE.cfg N) (fnBody Tryd.f5) := loopsL (l := []) (by kernel_rfl) trivial
theorem zBE.b (N : Nat) (x0 : den s28) : body (zBE.cfg N) N Tryd.f5 [.one] [.v] [(false, .imm)] [⟨s28, .imm, x0⟩] (fun r i => some (r, i)) = bindO (zBE N x0) fun r => some ([⟨.str, .imm, r⟩], []) := by
  show _ = bindF _ _
  conv => rhs; simp only [zBE, bindF_ifB, bindF_bindO, bindF_pure, bindF_none, bindF_onSum]
  kernel_rfl
theorem zBE.ok (N : Nat) : ConOk Tryd.prog 5 [.one] (zBE.con N) := ok1 (g := zBE.cfg N) (N := N) (res := [(false, .imm)]) tys_ok (zBE.cons N) mixed Tryd.func5 (zBE.ls N) rfl (zBE.b N)
theorem zBE.det (N : Nat) : ConDet (zBE.con N) := det1
end Go.AE.F
end
