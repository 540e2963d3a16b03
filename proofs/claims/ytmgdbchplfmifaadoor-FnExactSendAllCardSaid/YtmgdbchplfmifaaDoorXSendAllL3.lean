/- The printed functions are what the program comes to: contracts. -/
import Derived.Test.YtmgdbchplfmifaaDoorXSendAllL2
noncomputable section
namespace Go.AE.F
open Go.AE Go.Proofs Go.Lib
set_option maxRecDepth 100000
def zAR.con (N : Nat) : Con := { modes := [.rd, .v], ptrs := [false], fn := fn2 s28 .imm (.int .i64) .imm (zAR N) (fun r => [⟨.bool, .imm, r⟩]) (fun r => []) }
def zAR.cfg (N : Nat) : Cfg := { ty := tys, keep := [20], flt := [], elm := elm0, live := [], ord := [], con := [((56, [.one]), zAU.con N)], loops := [], joins := [] }
theorem zAR.cons (N : Nat) : ConsOk Tryd.prog (zAR.cfg N).con := (consOk_cons (hb56) (zAU.ok N) (zAU.det N) consOk_nil)
theorem zAR.ls (N : Nat) : LoopsOk Tryd.prog (zAR.cfg N) (fnBody Tryd.f42) := loopsL (l := []) (by kernel_rfl) trivial
theorem zAR.b (N : Nat) (x0 : den s28) (x1 : den (.int .i64)) : body (zAR.cfg N) N Tryd.f42 [.one, .one] [.rd, .v] [(false, .imm)] [⟨s28, .imm, x0⟩, ⟨(.int .i64), .imm, x1⟩] (fun r i => some (r, i)) = bindO (zAR N x0 x1) fun r => some ([⟨.bool, .imm, r⟩], []) := by
  show _ = bindF _ _
  conv => rhs; simp only [zAR, bindF_ifB, bindF_bindO, bindF_pure, bindF_none, bindF_onSum]
  kernel_rfl
theorem zAR.ok (N : Nat) : ConOk Tryd.prog 42 [.one, .one] (zAR.con N) := ok2 (g := zAR.cfg N) (N := N) (res := [(false, .imm)]) tys_ok (zAR.cons N) mixed Tryd.func42 (zAR.ls N) rfl (zAR.b N)
theorem zAR.det (N : Nat) : ConDet (zAR.con N) := det2
def zA7.sk5 : Skel := ⟨dd 1 (.ptr 50 [] :: (dd 1 (.pv .bool :: (dd 16 (.pv (.int .i64) :: (.pv (.int .i64) :: (dd 26 []))))))), [⟨50, s28, .imm, true, false⟩]⟩
def zA7.xs5 : List XS := [⟨.exit 0, [], ⟨dd 48 [], []⟩⟩, ⟨.ret, [2], ⟨dd 2 (.pv .bool :: (dd 45 [])), []⟩⟩]
def zA7.con (N : Nat) : Con := { modes := [.v], ptrs := [false], fn := fn1 s28 .imm (zA7 N) (fun r => [⟨.bool, .imm, r⟩]) (fun r => []) }
def zA7.cfg (N : Nat) : Cfg := { ty := tys, keep := [7, 20, 35, 38], flt := [], elm := elm0, live := [(5, [1, 3, 20, 21])], ord := [], con := [((40, [.one]), zA6.con N), ((41, [.one]), zAP.con N), ((42, [.one, .one]), zAR.con N), ((43, [.one]), zAQ.con N)], loops := [(5, loopCon N zA7.sk5 zA7.xs5 (fun {R} => zA7.l5 (R := R) N))], joins := [(17, [⟨.normal, [1, 3, 20, 21], ⟨dd 1 (.ptr 50 [] :: (dd 1 (.pv .bool :: (dd 16 (.pv (.int .i64) :: (.pv (.int .i64) :: (dd 26 []))))))), [⟨50, s28, .imm, true, false⟩]⟩⟩, ⟨.ret, [2], ⟨dd 2 (.pv .bool :: (dd 45 [])), []⟩⟩])] }
theorem zA7.cons (N : Nat) : ConsOk Tryd.prog (zA7.cfg N).con := (consOk_cons (hb40) (zA6.ok N) (zA6.det N) (consOk_cons (hb41) (zAP.ok N) (zAP.det N) (consOk_cons (hb42) (zAR.ok N) (zAR.det N) (consOk_cons (hb43) (zAQ.ok N) (zAQ.det N) consOk_nil))))
theorem zA7.h5 {R : Type} (N : Nat) (d : zA7.sk5.D) (kn : zA7.sk5.D → Option R) (kx : XD zA7.xs5 → Option R) : roundK (zA7.cfg N) N (nthLoop (fnBody Tryd.f25) 0) zA7.sk5 zA7.xs5 d kn kx = zA7.l5 N d kn kx := by kernel_rfl
theorem zA7.i5 (N : Nat) : LoopsOk Tryd.prog (zA7.cfg N) (nthLoop (fnBody Tryd.f25) 0) := loopsL (l := []) (by kernel_rfl) trivial
theorem zA7.o5 (N : Nat) : LoopOk Tryd.prog (nthLoop (fnBody Tryd.f25) 0) (loopCon N zA7.sk5 zA7.xs5 (fun {R} => zA7.l5 (R := R) N)) := loop_ok (g := zA7.cfg N) tys_ok (zA7.cons N) mixed (zA7.i5 N) (fun d kn kx => zA7.h5 N d kn kx)
theorem zA7.ls (N : Nat) : LoopsOk Tryd.prog (zA7.cfg N) (fnBody Tryd.f25) := loopsL (l := [nthLoop (fnBody Tryd.f25) 0]) (by kernel_rfl) ⟨loopOne (L0 := loopCon N zA7.sk5 zA7.xs5 (fun {R} => zA7.l5 (R := R) N)) (id := 5) (by kernel_rfl) (by kernel_rfl) (zA7.o5 N), trivial⟩
theorem zA7.q5 {R R' : Type} {N n : Nat} {d} {k} {g : R → Option R'} : bindF (loopP (zA7.l5 N) n d k) g = loopP (zA7.l5 N) n d fun e => bindF (k e) g := bindF_loopP (fun d kn kx => by simp only [zA7.l5, bindF_ifB, bindF_bindO, bindF_pure, bindF_none, bindF_onSum]) n d k
theorem zA7.b (N : Nat) (x0 : den s28) : body (zA7.cfg N) N Tryd.f25 [.one] [.v] [(false, .imm)] [⟨s28, .imm, x0⟩] (fun r i => some (r, i)) = bindO (zA7 N x0) fun r => some ([⟨.bool, .imm, r⟩], []) := by
  show _ = bindF _ _
  conv => rhs; simp only [zA7, bindF_ifB, bindF_bindO, bindF_pure, bindF_none, bindF_onSum, zA7.q5]
  kernel_rfl
theorem zA7.ok (N : Nat) : ConOk Tryd.prog 25 [.one] (zA7.con N) := ok1 (g := zA7.cfg N) (N := N) (res := [(false, .imm)]) tys_ok (zA7.cons N) mixed Tryd.func25 (zA7.ls N) rfl (zA7.b N)
theorem zA7.det (N : Nat) : ConDet (zA7.con N) := det1
def zA1.sk4 : Skel := ⟨.pv s40 :: (.pv s40 :: (dd 10 (.pv (.int .i64) :: (.pv (.int .i64) :: (dd 12 []))))), []⟩
def zA1.xs4 : List XS := [⟨.exit 0, [], ⟨dd 26 [], []⟩⟩, ⟨.ret, [4], ⟨dd 4 (.pv .bool :: (dd 21 [])), []⟩⟩]
def zA1.con (N : Nat) : Con := { modes := [.v, .v], ptrs := [false], fn := fn2 s40 .imm s40 .imm (zA1 N) (fun r => [⟨.bool, .imm, r⟩]) (fun r => []) }
def zA1.cfg (N : Nat) : Cfg := { ty := tys, keep := [], flt := [], elm := elm0, live := [(4, [0, 1, 12, 13])], ord := [(6, [0, 1, 2, 3, 4, 5, 6, 7, 8])], con := [], loops := [(4, loopCon N zA1.sk4 zA1.xs4 (fun {R} => zA1.l4 (R := R) N))], joins := [] }
theorem zA1.cons (N : Nat) : ConsOk Tryd.prog (zA1.cfg N).con := consOk_nil
theorem zA1.h4 {R : Type} (N : Nat) (d : zA1.sk4.D) (kn : zA1.sk4.D → Option R) (kx : XD zA1.xs4 → Option R) : roundK (zA1.cfg N) N (nthLoop (fnBody Tryd.f46) 0) zA1.sk4 zA1.xs4 d kn kx = zA1.l4 N d kn kx := by kernel_rfl
theorem zA1.i4 (N : Nat) : LoopsOk Tryd.prog (zA1.cfg N) (nthLoop (fnBody Tryd.f46) 0) := loopsL (l := []) (by kernel_rfl) trivial
theorem zA1.o4 (N : Nat) : LoopOk Tryd.prog (nthLoop (fnBody Tryd.f46) 0) (loopCon N zA1.sk4 zA1.xs4 (fun {R} => zA1.l4 (R := R) N)) := loop_ok (g := zA1.cfg N) tys_ok (zA1.cons N) mixed (zA1.i4 N) (fun d kn kx => zA1.h4 N d kn kx)
theorem zA1.ls (N : Nat) : LoopsOk Tryd.prog (zA1.cfg N) (fnBody Tryd.f46) := loopsL (l := [nthLoop (fnBody Tryd.f46) 0]) (by kernel_rfl) ⟨loopOne (L0 := loopCon N zA1.sk4 zA1.xs4 (fun {R} => zA1.l4 (R := R) N)) (id := 4) (by kernel_rfl) (by kernel_rfl) (zA1.o4 N), trivial⟩
theorem zA1.q4 {R R' : Type} {N n : Nat} {d} {k} {g : R → Option R'} : bindF (loopP (zA1.l4 N) n d k) g = loopP (zA1.l4 N) n d fun e => bindF (k e) g := bindF_loopP (fun d kn kx => by simp only [zA1.l4, bindF_ifB, bindF_bindO, bindF_pure, bindF_none, bindF_onSum]) n d k
theorem zA1.b (N : Nat) (x0 : den s40) (x1 : den s40) : body (zA1.cfg N) N Tryd.f46 [.one, .one] [.v, .v] [(false, .imm)] [⟨s40, .imm, x0⟩, ⟨s40, .imm, x1⟩] (fun r i => some (r, i)) = bindO (zA1 N x0 x1) fun r => some ([⟨.bool, .imm, r⟩], []) := by
  show _ = bindF _ _
  conv => rhs; simp only [zA1, bindF_ifB, bindF_bindO, bindF_pure, bindF_none, bindF_onSum, zA1.q4]
  kernel_rfl
theorem zA1.ok (N : Nat) : ConOk Tryd.prog 46 [.one, .one] (zA1.con N) := ok2 (g := zA1.cfg N) (N := N) (res := [(false, .imm)]) tys_ok (zA1.cons N) mixed Tryd.func46 (zA1.ls N) rfl (zA1.b N)
theorem zA1.det (N : Nat) : ConDet (zA1.con N) := det2
def zAX.con (N : Nat) : Con := { modes := [.v, .v], ptrs := [false], fn := fn2 s41 .imm s41 .imm (zAX N) (fun r => [⟨.bool, .imm, r⟩]) (fun r => []) }
def zAX.cfg (N : Nat) : Cfg := { ty := tys, keep := [15], flt := [], elm := elm0, live := [], ord := [], con := [((46, [.one, .one]), zA1.con N)], loops := [], joins := [] }
theorem zAX.cons (N : Nat) : ConsOk Tryd.prog (zAX.cfg N).con := (consOk_cons (hb46) (zA1.ok N) (zA1.det N) consOk_nil)
theorem zAX.ls (N : Nat) : LoopsOk Tryd.prog (zAX.cfg N) (fnBody Tryd.f45) := loopsL (l := []) (by kernel_rfl) trivial
theorem zAX.b (N : Nat) (x0 : den s41) (x1 : den s41) : body (zAX.cfg N) N Tryd.f45 [.one, .one] [.v, .v] [(false, .imm)] [⟨s41, .imm, x0⟩, ⟨s41, .imm, x1⟩] (fun r i => some (r, i)) = bindO (zAX N x0 x1) fun r => some ([⟨.bool, .imm, r⟩], []) := by
  show _ = bindF _ _
  conv => rhs; simp only [zAX, bindF_ifB, bindF_bindO, bindF_pure, bindF_none, bindF_onSum]
  kernel_rfl
theorem zAX.ok (N : Nat) : ConOk Tryd.prog 45 [.one, .one] (zAX.con N) := ok2 (g := zAX.cfg N) (N := N) (res := [(false, .imm)]) tys_ok (zAX.cons N) mixed Tryd.func45 (zAX.ls N) rfl (zAX.b N)
theorem zAX.det (N : Nat) : ConDet (zAX.con N) := det2
def zA0.sk4 : Skel := ⟨dd 1 (.pv s27 :: (.fn 45 [] :: (dd 12 (.pv s27 :: (.pv (.int .i64) :: (.pv (.int .i64) :: (dd 14 []))))))), []⟩
def zA0.xs4 : List XS := [⟨.exit 0, [], ⟨dd 32 [], []⟩⟩, ⟨.ret, [6], ⟨dd 6 (.pv .bool :: (dd 25 [])), []⟩⟩]
def zA0.con (N : Nat) : Con := { modes := [.v, .v], ptrs := [false], fn := fn2 s27 .imm s27 .imm (zA0 N) (fun r => [⟨.bool, .imm, r⟩]) (fun r => []) }
def zA0.cfg (N : Nat) : Cfg := { ty := tys, keep := [29], flt := [], elm := elm0, live := [(4, [1, 2, 15, 16, 17])], ord := [], con := [((45, [.one, .one]), zAX.con N)], loops := [(4, loopCon N zA0.sk4 zA0.xs4 (fun {R} => zA0.l4 (R := R) N))], joins := [] }
theorem zA0.cons (N : Nat) : ConsOk Tryd.prog (zA0.cfg N).con := (consOk_cons (hb45) (zAX.ok N) (zAX.det N) consOk_nil)
theorem zA0.h4 {R : Type} (N : Nat) (d : zA0.sk4.D) (kn : zA0.sk4.D → Option R) (kx : XD zA0.xs4 → Option R) : roundK (zA0.cfg N) N (nthLoop (fnBody Tryd.f44) 0) zA0.sk4 zA0.xs4 d kn kx = zA0.l4 N d kn kx := by kernel_rfl
theorem zA0.i4 (N : Nat) : LoopsOk Tryd.prog (zA0.cfg N) (nthLoop (fnBody Tryd.f44) 0) := loopsL (l := []) (by kernel_rfl) trivial
theorem zA0.o4 (N : Nat) : LoopOk Tryd.prog (nthLoop (fnBody Tryd.f44) 0) (loopCon N zA0.sk4 zA0.xs4 (fun {R} => zA0.l4 (R := R) N)) := loop_ok (g := zA0.cfg N) tys_ok (zA0.cons N) mixed (zA0.i4 N) (fun d kn kx => zA0.h4 N d kn kx)
theorem zA0.ls (N : Nat) : LoopsOk Tryd.prog (zA0.cfg N) (fnBody Tryd.f44) := loopsL (l := [nthLoop (fnBody Tryd.f44) 0]) (by kernel_rfl) ⟨loopOne (L0 := loopCon N zA0.sk4 zA0.xs4 (fun {R} => zA0.l4 (R := R) N)) (id := 4) (by kernel_rfl) (by kernel_rfl) (zA0.o4 N), trivial⟩
theorem zA0.q4 {R R' : Type} {N n : Nat} {d} {k} {g : R → Option R'} : bindF (loopP (zA0.l4 N) n d k) g = loopP (zA0.l4 N) n d fun e => bindF (k e) g := bindF_loopP (fun d kn kx => by simp only [zA0.l4, bindF_ifB, bindF_bindO, bindF_pure, bindF_none, bindF_onSum]) n d k
theorem zA0.b (N : Nat) (x0 : den s27) (x1 : den s27) : body (zA0.cfg N) N Tryd.f44 [.one, .one, .fn 45 0] [.v, .v] [(false, .imm)] [⟨s27, .imm, x0⟩, ⟨s27, .imm, x1⟩] (fun r i => some (r, i)) = bindO (zA0 N x0 x1) fun r => some ([⟨.bool, .imm, r⟩], []) := by
  show _ = bindF _ _
  conv => rhs; simp only [zA0, bindF_ifB, bindF_bindO, bindF_pure, bindF_none, bindF_onSum, zA0.q4]
  kernel_rfl
theorem zA0.ok (N : Nat) : ConOk Tryd.prog 44 [.one, .one, .fn 45 0] (zA0.con N) := ok2 (g := zA0.cfg N) (N := N) (res := [(false, .imm)]) tys_ok (zA0.cons N) mixed Tryd.func44 (zA0.ls N) rfl (zA0.b N)
theorem zA0.det (N : Nat) : ConDet (zA0.con N) := det2
def zB1.con (N : Nat) : Con := { modes := [.v, .v], ptrs := [false], fn := fn2 s27 .imm s27 .imm (zB1 N) (fun r => [⟨.bool, .imm, r⟩]) (fun r => []) }
def zB1.cfg (N : Nat) : Cfg := { ty := tys, keep := [7], flt := [], elm := elm0, live := [], ord := [], con := [((44, [.one, .one, .fn 45 0]), zA0.con N)], loops := [], joins := [] }
theorem zB1.cons (N : Nat) : ConsOk Tryd.prog (zB1.cfg N).con := (consOk_cons (hb44) (zA0.ok N) (zA0.det N) consOk_nil)
theorem zB1.ls (N : Nat) : LoopsOk Tryd.prog (zB1.cfg N) (fnBody Tryd.f26) := loopsL (l := []) (by kernel_rfl) trivial
theorem zB1.b (N : Nat) (x0 : den s27) (x1 : den s27) : body (zB1.cfg N) N Tryd.f26 [.one, .one] [.v, .v] [(false, .imm)] [⟨s27, .imm, x0⟩, ⟨s27, .imm, x1⟩] (fun r i => some (r, i)) = bindO (zB1 N x0 x1) fun r => some ([⟨.bool, .imm, r⟩], []) := by
  show _ = bindF _ _
  conv => rhs; simp only [zB1, bindF_ifB, bindF_bindO, bindF_pure, bindF_none, bindF_onSum]
  kernel_rfl
theorem zB1.ok (N : Nat) : ConOk Tryd.prog 26 [.one, .one] (zB1.con N) := ok2 (g := zB1.cfg N) (N := N) (res := [(false, .imm)]) tys_ok (zB1.cons N) mixed Tryd.func26 (zB1.ls N) rfl (zB1.b N)
theorem zB1.det (N : Nat) : ConDet (zB1.con N) := det2
def zAS.con (N : Nat) : Con := { modes := [.v], ptrs := [false], fn := fn1 (.int .i64) .imm (zAS N) (fun r => [⟨.str, .imm, r⟩]) (fun r => []) }
def zAS.cfg (N : Nat) : Cfg := { ty := tys, keep := [], flt := [], elm := elm0, live := [], ord := [], con := [], loops := [], joins := [] }
theorem zAS.cons (N : Nat) : ConsOk Tryd.prog (zAS.cfg N).con := consOk_nil
theorem zAS.ls (N : Nat) : LoopsOk Tryd.prog (zAS.cfg N) (fnBody Tryd.f65) := loopsL (l := []) (by kernel_rfl) trivial
theorem zAS.b (N : Nat) (x0 : den (.int .i64)) : body (zAS.cfg N) N Tryd.f65 [.one] [.v] [(false, .imm)] [⟨(.int .i64), .imm, x0⟩] (fun r i => some (r, i)) = bindO (zAS N x0) fun r => some ([⟨.str, .imm, r⟩], []) := by
  show _ = bindF _ _
  conv => rhs; simp only [zAS, bindF_ifB, bindF_bindO, bindF_pure, bindF_none, bindF_onSum]
  kernel_rfl
theorem zAS.ok (N : Nat) : ConOk Tryd.prog 65 [.one] (zAS.con N) := ok1 (g := zAS.cfg N) (N := N) (res := [(false, .imm)]) tys_ok (zAS.cons N) mixed Tryd.func65 (zAS.ls N) rfl (zAS.b N)
theorem zAS.det (N : Nat) : ConDet (zAS.con N) := det1
def zAK.con (N : Nat) : Con := { modes := [.v, .v], ptrs := [false], fn := fn2 (.int .i64) .imm (.int .i64) .imm (zAK N) (fun r => [⟨.str, .imm, r⟩]) (fun r => []) }
def zAK.cfg (N : Nat) : Cfg := { ty := tys, keep := [19, 27, 32, 50], flt := [], elm := elm0, live := [], ord := [], con := [((65, [.one]), zAS.con N)], loops := [], joins := [] }
theorem zAK.cons (N : Nat) : ConsOk Tryd.prog (zAK.cfg N).con := (consOk_cons (hb65) (zAS.ok N) (zAS.det N) consOk_nil)
theorem zAK.ls (N : Nat) : LoopsOk Tryd.prog (zAK.cfg N) (fnBody Tryd.f63) := loopsL (l := []) (by kernel_rfl) trivial
theorem zAK.b (N : Nat) (x0 : den (.int .i64)) (x1 : den (.int .i64)) : body (zAK.cfg N) N Tryd.f63 [.one, .one] [.v, .v] [(false, .imm)] [⟨(.int .i64), .imm, x0⟩, ⟨(.int .i64), .imm, x1⟩] (fun r i => some (r, i)) = bindO (zAK N x0 x1) fun r => some ([⟨.str, .imm, r⟩], []) := by
  show _ = bindF _ _
  conv => rhs; simp only [zAK, bindF_ifB, bindF_bindO, bindF_pure, bindF_none, bindF_onSum]
  kernel_rfl
theorem zAK.ok (N : Nat) : ConOk Tryd.prog 63 [.one, .one] (zAK.con N) := ok2 (g := zAK.cfg N) (N := N) (res := [(false, .imm)]) tys_ok (zAK.cons N) mixed Tryd.func63 (zAK.ls N) rfl (zAK.b N)
theorem zAK.det (N : Nat) : ConDet (zAK.con N) := det2
def zAY.con (N : Nat) : Con := { modes := [.v, .v], ptrs := [false], fn := fn2 (.int .i64) .imm (.int .i64) .imm (zAY N) (fun r => [⟨.str, .imm, r⟩]) (fun r => []) }
def zAY.cfg (N : Nat) : Cfg := { ty := tys, keep := [7], flt := [], elm := elm0, live := [], ord := [], con := [((63, [.one, .one]), zAK.con N)], loops := [], joins := [] }
theorem zAY.cons (N : Nat) : ConsOk Tryd.prog (zAY.cfg N).con := (consOk_cons (hb63) (zAK.ok N) (zAK.det N) consOk_nil)
theorem zAY.ls (N : Nat) : LoopsOk Tryd.prog (zAY.cfg N) (fnBody Tryd.f58) := loopsL (l := []) (by kernel_rfl) trivial
theorem zAY.b (N : Nat) (x0 : den (.int .i64)) (x1 : den (.int .i64)) : body (zAY.cfg N) N Tryd.f58 [.one, .one] [.v, .v] [(false, .imm)] [⟨(.int .i64), .imm, x0⟩, ⟨(.int .i64), .imm, x1⟩] (fun r i => some (r, i)) = bindO (zAY N x0 x1) fun r => some ([⟨.str, .imm, r⟩], []) := by
  show _ = bindF _ _
  conv => rhs; simp only [zAY, bindF_ifB, bindF_bindO, bindF_pure, bindF_none, bindF_onSum]
  kernel_rfl
theorem zAY.ok (N : Nat) : ConOk Tryd.prog 58 [.one, .one] (zAY.con N) := ok2 (g := zAY.cfg N) (N := N) (res := [(false, .imm)]) tys_ok (zAY.cons N) mixed Tryd.func58 (zAY.ls N) rfl (zAY.b N)
theorem zAY.det (N : Nat) : ConDet (zAY.con N) := det2
def zA4.con (N : Nat) : Con := { modes := [.v], ptrs := [false], fn := fn1 (.int .i64) .imm (zA4 N) (fun r => [⟨.str, .imm, r⟩]) (fun r => []) }
def zA4.cfg (N : Nat) : Cfg := { ty := tys, keep := [4], flt := [], elm := elm0, live := [], ord := [], con := [((58, [.one, .one]), zAY.con N)], loops := [], joins := [] }
theorem zA4.cons (N : Nat) : ConsOk Tryd.prog (zA4.cfg N).con := (consOk_cons (hb58) (zAY.ok N) (zAY.det N) consOk_nil)
theorem zA4.ls (N : Nat) : LoopsOk Tryd.prog (zA4.cfg N) (fnBody Tryd.f48) := loopsL (l := []) (by kernel_rfl) trivial
theorem zA4.b (N : Nat) (x0 : den (.int .i64)) : body (zA4.cfg N) N Tryd.f48 [.one] [.v] [(false, .imm)] [⟨(.int .i64), .imm, x0⟩] (fun r i => some (r, i)) = bindO (zA4 N x0) fun r => some ([⟨.str, .imm, r⟩], []) := by
  show _ = bindF _ _
  conv => rhs; simp only [zA4, bindF_ifB, bindF_bindO, bindF_pure, bindF_none, bindF_onSum]
  kernel_rfl
theorem zA4.ok (N : Nat) : ConOk Tryd.prog 48 [.one] (zA4.con N) := ok1 (g := zA4.cfg N) (N := N) (res := [(false, .imm)]) tys_ok (zA4.cons N) mixed Tryd.func48 (zA4.ls N) rfl (zA4.b N)
theorem zA4.det (N : Nat) : ConDet (zA4.con N) := det1
def zBL.con (N : Nat) : Con := { modes := [.v, .v], ptrs := [false], fn := fn2 (.int .i64) .imm (.int .i64) .imm (zBL N) (fun r => [⟨.str, .imm, r⟩]) (fun r => []) }
def zBL.cfg (N : Nat) : Cfg := { ty := tys, keep := [7, 12], flt := [], elm := elm0, live := [], ord := [], con := [((48, [.one]), zA4.con N)], loops := [], joins := [] }
theorem zBL.cons (N : Nat) : ConsOk Tryd.prog (zBL.cfg N).con := (consOk_cons (hb48) (zA4.ok N) (zA4.det N) consOk_nil)
theorem zBL.ls (N : Nat) : LoopsOk Tryd.prog (zBL.cfg N) (fnBody Tryd.f30) := loopsL (l := []) (by kernel_rfl) trivial
theorem zBL.b (N : Nat) (x0 : den (.int .i64)) (x1 : den (.int .i64)) : body (zBL.cfg N) N Tryd.f30 [.one, .one] [.v, .v] [(false, .imm)] [⟨(.int .i64), .imm, x0⟩, ⟨(.int .i64), .imm, x1⟩] (fun r i => some (r, i)) = bindO (zBL N x0 x1) fun r => some ([⟨.str, .imm, r⟩], []) := by
  show _ = bindF _ _
  conv => rhs; simp only [zBL, bindF_ifB, bindF_bindO, bindF_pure, bindF_none, bindF_onSum]
  kernel_rfl
theorem zBL.ok (N : Nat) : ConOk Tryd.prog 30 [.one, .one] (zBL.con N) := ok2 (g := zBL.cfg N) (N := N) (res := [(false, .imm)]) tys_ok (zBL.cons N) mixed Tryd.func30 (zBL.ls N) rfl (zBL.b N)
theorem zBL.det (N : Nat) : ConDet (zBL.con N) := det2
set_option maxHeartbeats 1000000 in
set_option maxRecDepth 100000 in
theorem blt_cc_used (b : Nat) (w : World) (h0 : w.cell? ⟨b, 0, none⟩ = some (.pointer (some ⟨b, 0, none⟩))) :
    Calls Tryd.prog 47 #[.pointer (some ⟨b, 0, none⟩)] w fun e w' => e = .returned (.tuple #[]) ∧ w' = w := by
  have hj0 : (Tryd.prog.info? 53).map (·.size) = some 2 := by kernel_rfl
  obtain ⟨j, hj, _⟩ := Option.map_eq_some_iff.1 hj0
  have mixed := mixed
  go_enter Tryd.func47, Tryd.ntmps47
  go_wp2
  rw [Go.Lib.run_neq_ptr_same w _ Tryd.underlying51 hj]
  go_wp2
  go_end0
  exact ⟨rfl, rfl⟩
set_option maxHeartbeats 1000000 in
set_option maxRecDepth 100000 in
theorem blt_cc_fresh (b : Nat) (w : World) (h0 : w.cell? ⟨b, 0, none⟩ = some (.pointer none)) (hsh : w.shape? b = some (53, 2)) (hfz : w.frozen? ⟨b, 0, none⟩ = false) :
    Calls Tryd.prog 47 #[.pointer (some ⟨b, 0, none⟩)] w fun e w' => e = .returned (.tuple #[]) ∧ w' = w.setCell ⟨b, 0, none⟩ (.pointer (some ⟨b, 0, none⟩)) := by
  have hj0 : (Tryd.prog.info? 53).map (·.size) = some 2 := by kernel_rfl
  have hlies : liesAt Tryd.prog Tryd.prog.depth 53 (2 / Tryd.prog.cellsOf 53) 0 53 1 = true := by kernel_rfl
  obtain ⟨j, hj, hjs⟩ := Option.map_eq_some_iff.1 hj0
  have mixed := mixed
  go_enter Tryd.func47, Tryd.ntmps47
  go_wp2
  rw [Go.Lib.run_to_unsafe w ⟨b, 0, none⟩ Tryd.underlying51 Tryd.underlying76 hj (by rw [hjs]; decide) hsh (Nat.zero_lt_succ 1)]
  simp only [Result.andThen]
  rw [Oper.upon_value]
  go_wp2
  rw [run_callFunc_extern Tryd.func57 (by kernel_rfl) (by kernel_rfl) (by kernel_rfl) (e := Extern.AbiNoEscape.same) (by kernel_rfl)]
  rw [Go.Lib.run_noEscape]
  simp only [Result.andThen]
  rw [Oper.upon_value]
  go_wp2
  rw [Go.Lib.run_from_unsafe w ⟨b, 0, none⟩ Tryd.underlying76 Tryd.underlying51 hj hsh hlies]
  simp only [Result.andThen]
  rw [Oper.upon_value]
  go_wp2
  go_end0
  exact ⟨rfl, rfl⟩
theorem blt_cc (m : Hp) (w : World) (b : Nat) (p : Value) (ad : Option Addr) (cap : Nat) (xs : List Int) (hR : Hp) (I : BltIn m w 53 5 b p ad cap xs hR) :
    Calls Tryd.prog 47 #[self b] w fun e w' => e = .returned (.tuple #[]) ∧ BltIn m w' 53 5 b (self b) ad cap xs hR ∧ Mod (blk b 0 [undef, undef]) w w' := by
  rcases I.p with h | h
  · subst h
    refine (blt_cc_fresh b w I.c0 I.shp (I.nf.at I.c0)).mono ?_
    rintro e w' ⟨rfl, rfl⟩
    exact ⟨rfl, I.checked (.inr ⟨rfl, rfl⟩)⟩
  · subst h
    refine (blt_cc_used b w I.c0).mono ?_
    rintro e w' ⟨rfl, rfl⟩
    exact ⟨rfl, I.checked (.inl ⟨rfl, rfl⟩)⟩
set_option maxHeartbeats 2000000 in
set_option maxRecDepth 100000 in
theorem strings_Builder_WriteString.run : BltRun Tryd.prog 27 53 5 0 := by
  intro m w b p ad cap xs hR s I hfit
  have mixed := mixed
  have ht : typeOk Tryd.prog 45 s45 = true := by kernel_rfl
  unfold self
  go_enter Tryd.func27, Tryd.ntmps27
  go_wp2_with (go_at_call 47; refine (blt_cc m w b p ad cap xs hR I).mono ?_)
  rintro e w1 ⟨rfl, I1, M1⟩
  have c0 := I1.c0
  have c1 := I1.c1
  obtain ⟨ad', cap', w2, hR', hrun, k0, k1, kf, M2, I2, dom, wh⟩ := I1.append (P := Tryd.prog) (ty := 45) ht Tryd.underlying9 hfit
  simp only [List.length_append] at hrun M2 I2
  go_wp2_with (at_builtin; refine Go.Lib.wpList_append_run _ rfl _ _ 45 9 rfl _ _ rfl rfl _ _ hrun ?_)
  go_wp2
  go_ret2
  refine ⟨_, ad', cap', hR', rfl, ?_, I2, ?_, ?_⟩
  · exact M1.un.trans M2
  · intro k o h
    exact (dom k o h).imp id fun q => Nat.le_trans M1.size q
  · exact wh.imp id fun ⟨q1, g, q2, q3⟩ => ⟨q1, g, q2, Nat.le_trans M1.size q3⟩
def strings_Builder_WriteString.con (N : Nat) : Con := { modes := [], ptrs := [], bl := some (53, 5, 0), fn := fun _ _ => none }
theorem strings_Builder_WriteString.ok (N : Nat) : ConOk Tryd.prog 27 [.one, .one] (strings_Builder_WriteString.con N) := ⟨fun h => (by cases h), fun b h => (by injection h with h; subst h; exact ⟨Tryd.zeroValue53, strings_Builder_WriteString.run⟩)⟩
theorem strings_Builder_WriteString.det (N : Nat) : ConDet (strings_Builder_WriteString.con N) := fun ds R k y h => by cases h
end Go.AE.F
end
