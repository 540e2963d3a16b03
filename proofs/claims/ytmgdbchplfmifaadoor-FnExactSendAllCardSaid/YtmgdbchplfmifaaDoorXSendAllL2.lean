/- The printed functions are what the program comes to: contracts. -/
import Derived.Test.YtmgdbchplfmifaaDoorXSendAllL1
noncomputable section
namespace Go.AE.F
open Go.AE Go.Proofs
set_option maxRecDepth 100000
def zAT.con (N : Nat) : Con := { modes := [.v, .v, .v], ptrs := [false], fn := fn3 (.int .i64) .imm (.int .i64) .imm (.int .i64) .imm (zAT N) (fun r => [⟨.bool, .imm, r⟩]) (fun r => []) }
def zAT.cfg (N : Nat) : Cfg := { ty := tys, keep := [], flt := [], elm := elm0, live := [], ord := [], con := [], loops := [], joins := [] }
theorem zAT.cons (N : Nat) : ConsOk Tryd.prog (zAT.cfg N).con := consOk_nil
theorem zAT.ls (N : Nat) : LoopsOk Tryd.prog (zAT.cfg N) (fnBody Tryd.f50) := loopsL (l := []) (by kernel_rfl) trivial
theorem zAT.b (N : Nat) (x0 : den (.int .i64)) (x1 : den (.int .i64)) (x2 : den (.int .i64)) : body (zAT.cfg N) N Tryd.f50 [.one, .one, .one] [.v, .v, .v] [(false, .imm)] [⟨(.int .i64), .imm, x0⟩, ⟨(.int .i64), .imm, x1⟩, ⟨(.int .i64), .imm, x2⟩] (fun r i => some (r, i)) = bindO (zAT N x0 x1 x2) fun r => some ([⟨.bool, .imm, r⟩], []) := by
  show _ = bindF _ _
  conv => rhs; simp only [zAT, bindF_ifB, bindF_bindO, bindF_pure, bindF_none, bindF_onSum]
  kernel_rfl
theorem zAT.ok (N : Nat) : ConOk Tryd.prog 50 [.one, .one, .one] (zAT.con N) := ok3 (g := zAT.cfg N) (N := N) (res := [(false, .imm)]) tys_ok (zAT.cons N) mixed Tryd.func50 (zAT.ls N) rfl (zAT.b N)
theorem zAT.det (N : Nat) : ConDet (zAT.con N) := det3
def zB8.con (N : Nat) : Con := { modes := [.v], ptrs := [false], fn := fn1 (.int .i64) .imm (zB8 N) (fun r => [⟨.bool, .imm, r⟩]) (fun r => []) }
def zB8.cfg (N : Nat) : Cfg := { ty := tys, keep := [4], flt := [], elm := elm0, live := [], ord := [], con := [((50, [.one, .one, .one]), zAT.con N)], loops := [], joins := [] }
theorem zB8.cons (N : Nat) : ConsOk Tryd.prog (zB8.cfg N).con := (consOk_cons (hb50) (zAT.ok N) (zAT.det N) consOk_nil)
theorem zB8.ls (N : Nat) : LoopsOk Tryd.prog (zB8.cfg N) (fnBody Tryd.f32) := loopsL (l := []) (by kernel_rfl) trivial
theorem zB8.b (N : Nat) (x0 : den (.int .i64)) : body (zB8.cfg N) N Tryd.f32 [.one] [.v] [(false, .imm)] [⟨(.int .i64), .imm, x0⟩] (fun r i => some (r, i)) = bindO (zB8 N x0) fun r => some ([⟨.bool, .imm, r⟩], []) := by
  show _ = bindF _ _
  conv => rhs; simp only [zB8, bindF_ifB, bindF_bindO, bindF_pure, bindF_none, bindF_onSum]
  kernel_rfl
theorem zB8.ok (N : Nat) : ConOk Tryd.prog 32 [.one] (zB8.con N) := ok1 (g := zB8.cfg N) (N := N) (res := [(false, .imm)]) tys_ok (zB8.cons N) mixed Tryd.func32 (zB8.ls N) rfl (zB8.b N)
theorem zB8.det (N : Nat) : ConDet (zB8.con N) := det1
def zB9.con (N : Nat) : Con := { modes := [.v], ptrs := [false], fn := fn1 (.int .i64) .imm (zB9 N) (fun r => [⟨.bool, .imm, r⟩]) (fun r => []) }
def zB9.cfg (N : Nat) : Cfg := { ty := tys, keep := [4], flt := [], elm := elm0, live := [], ord := [], con := [((50, [.one, .one, .one]), zAT.con N)], loops := [], joins := [] }
theorem zB9.cons (N : Nat) : ConsOk Tryd.prog (zB9.cfg N).con := (consOk_cons (hb50) (zAT.ok N) (zAT.det N) consOk_nil)
theorem zB9.ls (N : Nat) : LoopsOk Tryd.prog (zB9.cfg N) (fnBody Tryd.f33) := loopsL (l := []) (by kernel_rfl) trivial
theorem zB9.b (N : Nat) (x0 : den (.int .i64)) : body (zB9.cfg N) N Tryd.f33 [.one] [.v] [(false, .imm)] [⟨(.int .i64), .imm, x0⟩] (fun r i => some (r, i)) = bindO (zB9 N x0) fun r => some ([⟨.bool, .imm, r⟩], []) := by
  show _ = bindF _ _
  conv => rhs; simp only [zB9, bindF_ifB, bindF_bindO, bindF_pure, bindF_none, bindF_onSum]
  kernel_rfl
theorem zB9.ok (N : Nat) : ConOk Tryd.prog 33 [.one] (zB9.con N) := ok1 (g := zB9.cfg N) (N := N) (res := [(false, .imm)]) tys_ok (zB9.cons N) mixed Tryd.func33 (zB9.ls N) rfl (zB9.b N)
theorem zB9.det (N : Nat) : ConDet (zB9.con N) := det1
def zBD.con (N : Nat) : Con := { modes := [.v, .v], ptrs := [false], fn := fn2 (.int .i64) .imm (.int .i64) .imm (zBD N) (fun r => [⟨s28, (.pr .imm (.pr .imm (.pr (.own .imm) .imm))), r⟩]) (fun r => []) }
def zBD.cfg (N : Nat) : Cfg := { ty := tys, keep := [6, 10], flt := [], elm := elm0, live := [], ord := [], con := [((32, [.one]), zB8.con N), ((33, [.one]), zB9.con N)], loops := [], joins := [] }
theorem zBD.cons (N : Nat) : ConsOk Tryd.prog (zBD.cfg N).con := (consOk_cons (hb32) (zB8.ok N) (zB8.det N) (consOk_cons (hb33) (zB9.ok N) (zB9.det N) consOk_nil))
theorem zBD.ls (N : Nat) : LoopsOk Tryd.prog (zBD.cfg N) (fnBody Tryd.f15) := loopsL (l := []) (by kernel_rfl) trivial
theorem zBD.b (N : Nat) (x0 : den (.int .i64)) (x1 : den (.int .i64)) : body (zBD.cfg N) N Tryd.f15 [.one, .one] [.v, .v] [(false, (.pr .imm (.pr .imm (.pr (.own .imm) .imm))))] [⟨(.int .i64), .imm, x0⟩, ⟨(.int .i64), .imm, x1⟩] (fun r i => some (r, i)) = bindO (zBD N x0 x1) fun r => some ([⟨s28, (.pr .imm (.pr .imm (.pr (.own .imm) .imm))), r⟩], []) := by
  show _ = bindF _ _
  conv => rhs; simp only [zBD, bindF_ifB, bindF_bindO, bindF_pure, bindF_none, bindF_onSum]
  kernel_rfl
theorem zBD.ok (N : Nat) : ConOk Tryd.prog 15 [.one, .one] (zBD.con N) := ok2 (g := zBD.cfg N) (N := N) (res := [(false, (.pr .imm (.pr .imm (.pr (.own .imm) .imm))))]) tys_ok (zBD.cons N) mixed Tryd.func15 (zBD.ls N) rfl (zBD.b N)
theorem zBD.det (N : Nat) : ConDet (zBD.con N) := det2
def zAP.con (N : Nat) : Con := { modes := [.v], ptrs := [false], fn := fn1 s27 .imm (zAP N) (fun r => [⟨(.int .i64), .imm, r⟩]) (fun r => []) }
def zAP.cfg (N : Nat) : Cfg := { ty := tys, keep := [], flt := [], elm := elm0, live := [], ord := [], con := [], loops := [], joins := [] }
theorem zAP.cons (N : Nat) : ConsOk Tryd.prog (zAP.cfg N).con := consOk_nil
theorem zAP.ls (N : Nat) : LoopsOk Tryd.prog (zAP.cfg N) (fnBody Tryd.f41) := loopsL (l := []) (by kernel_rfl) trivial
theorem zAP.b (N : Nat) (x0 : den s27) : body (zAP.cfg N) N Tryd.f41 [.one] [.v] [(false, .imm)] [⟨s27, .imm, x0⟩] (fun r i => some (r, i)) = bindO (zAP N x0) fun r => some ([⟨(.int .i64), .imm, r⟩], []) := by
  show _ = bindF _ _
  conv => rhs; simp only [zAP, bindF_ifB, bindF_bindO, bindF_pure, bindF_none, bindF_onSum]
  kernel_rfl
theorem zAP.ok (N : Nat) : ConOk Tryd.prog 41 [.one] (zAP.con N) := ok1 (g := zAP.cfg N) (N := N) (res := [(false, .imm)]) tys_ok (zAP.cons N) mixed Tryd.func41 (zAP.ls N) rfl (zAP.b N)
theorem zAP.det (N : Nat) : ConDet (zAP.con N) := det1
def zB5.con (N : Nat) : Con := { modes := [.v], ptrs := [false], fn := fn1 (.int .i64) .imm (zB5 N) (fun r => [⟨.bool, .imm, r⟩]) (fun r => []) }
def zB5.cfg (N : Nat) : Cfg := { ty := tys, keep := [4, 7], flt := [], elm := elm0, live := [], ord := [], con := [((50, [.one, .one, .one]), zAT.con N)], loops := [], joins := [] }
theorem zB5.cons (N : Nat) : ConsOk Tryd.prog (zB5.cfg N).con := (consOk_cons (hb50) (zAT.ok N) (zAT.det N) consOk_nil)
theorem zB5.ls (N : Nat) : LoopsOk Tryd.prog (zB5.cfg N) (fnBody Tryd.f60) := loopsL (l := []) (by kernel_rfl) trivial
theorem zB5.b (N : Nat) (x0 : den (.int .i64)) : body (zB5.cfg N) N Tryd.f60 [.one] [.v] [(false, .imm)] [⟨(.int .i64), .imm, x0⟩] (fun r i => some (r, i)) = bindO (zB5 N x0) fun r => some ([⟨.bool, .imm, r⟩], []) := by
  show _ = bindF _ _
  conv => rhs; simp only [zB5, bindF_ifB, bindF_bindO, bindF_pure, bindF_none, bindF_onSum]
  kernel_rfl
theorem zB5.ok (N : Nat) : ConOk Tryd.prog 60 [.one] (zB5.con N) := ok1 (g := zB5.cfg N) (N := N) (res := [(false, .imm)]) tys_ok (zB5.cons N) mixed Tryd.func60 (zB5.ls N) rfl (zB5.b N)
theorem zB5.det (N : Nat) : ConDet (zB5.con N) := det1
def zAZ.con (N : Nat) : Con := { modes := [.v], ptrs := [false], fn := fn1 (.int .i64) .imm (zAZ N) (fun r => [⟨.bool, .imm, r⟩]) (fun r => []) }
def zAZ.cfg (N : Nat) : Cfg := { ty := tys, keep := [], flt := [], elm := elm0, live := [], ord := [], con := [], loops := [], joins := [] }
theorem zAZ.cons (N : Nat) : ConsOk Tryd.prog (zAZ.cfg N).con := consOk_nil
theorem zAZ.ls (N : Nat) : LoopsOk Tryd.prog (zAZ.cfg N) (fnBody Tryd.f61) := loopsL (l := []) (by kernel_rfl) trivial
theorem zAZ.b (N : Nat) (x0 : den (.int .i64)) : body (zAZ.cfg N) N Tryd.f61 [.one] [.v] [(false, .imm)] [⟨(.int .i64), .imm, x0⟩] (fun r i => some (r, i)) = bindO (zAZ N x0) fun r => some ([⟨.bool, .imm, r⟩], []) := by
  show _ = bindF _ _
  conv => rhs; simp only [zAZ, bindF_ifB, bindF_bindO, bindF_pure, bindF_none, bindF_onSum]
  kernel_rfl
theorem zAZ.ok (N : Nat) : ConOk Tryd.prog 61 [.one] (zAZ.con N) := ok1 (g := zAZ.cfg N) (N := N) (res := [(false, .imm)]) tys_ok (zAZ.cons N) mixed Tryd.func61 (zAZ.ls N) rfl (zAZ.b N)
theorem zAZ.det (N : Nat) : ConDet (zAZ.con N) := det1
def zAE.sk6 : Skel := ⟨.pv (.int .i64) :: (dd 19 (.ov 50 [] :: (.pv (.int .i64) :: (.pv (.int .i64) :: (dd 10 []))))), [⟨50, s82, (.own .imm), false, false⟩]⟩
def zAE.xs6 : List XS := [⟨.exit 0, [], ⟨dd 33 [], []⟩⟩, ⟨.ret, [2], ⟨dd 2 (.pv (.int .i64) :: (dd 30 [])), []⟩⟩]
def zAE.con (N : Nat) : Con := { modes := [.v], ptrs := [false], fn := fn1 (.int .i64) .imm (zAE N) (fun r => [⟨(.int .i64), .imm, r⟩]) (fun r => []) }
def zAE.cfg (N : Nat) : Cfg := { ty := tys, keep := [6, 10, 13, 31], flt := [], elm := elm0, live := [(6, [0, 20, 21, 22])], ord := [], con := [((60, [.one]), zB5.con N), ((50, [.one, .one, .one]), zAT.con N), ((61, [.one]), zAZ.con N)], loops := [(6, loopCon N zAE.sk6 zAE.xs6 (fun {R} => zAE.l6 (R := R) N))], joins := [] }
theorem zAE.cons (N : Nat) : ConsOk Tryd.prog (zAE.cfg N).con := (consOk_cons (hb60) (zB5.ok N) (zB5.det N) (consOk_cons (hb50) (zAT.ok N) (zAT.det N) (consOk_cons (hb61) (zAZ.ok N) (zAZ.det N) consOk_nil)))
theorem zAE.h6 {R : Type} (N : Nat) (d : zAE.sk6.D) (kn : zAE.sk6.D → Option R) (kx : XD zAE.xs6 → Option R) : roundK (zAE.cfg N) N (nthLoop (fnBody Tryd.f62) 0) zAE.sk6 zAE.xs6 d kn kx = zAE.l6 N d kn kx := by kernel_rfl
theorem zAE.i6 (N : Nat) : LoopsOk Tryd.prog (zAE.cfg N) (nthLoop (fnBody Tryd.f62) 0) := loopsL (l := []) (by kernel_rfl) trivial
theorem zAE.o6 (N : Nat) : LoopOk Tryd.prog (nthLoop (fnBody Tryd.f62) 0) (loopCon N zAE.sk6 zAE.xs6 (fun {R} => zAE.l6 (R := R) N)) := loop_ok (g := zAE.cfg N) tys_ok (zAE.cons N) mixed (zAE.i6 N) (fun d kn kx => zAE.h6 N d kn kx)
theorem zAE.ls (N : Nat) : LoopsOk Tryd.prog (zAE.cfg N) (fnBody Tryd.f62) := loopsL (l := [nthLoop (fnBody Tryd.f62) 0]) (by kernel_rfl) ⟨loopOne (L0 := loopCon N zAE.sk6 zAE.xs6 (fun {R} => zAE.l6 (R := R) N)) (id := 6) (by kernel_rfl) (by kernel_rfl) (zAE.o6 N), trivial⟩
theorem zAE.q6 {R R' : Type} {N n : Nat} {d} {k} {g : R → Option R'} : bindF (loopP (zAE.l6 N) n d k) g = loopP (zAE.l6 N) n d fun e => bindF (k e) g := bindF_loopP (fun d kn kx => by simp only [zAE.l6, bindF_ifB, bindF_bindO, bindF_pure, bindF_none, bindF_onSum]) n d k
theorem zAE.b (N : Nat) (x0 : den (.int .i64)) : body (zAE.cfg N) N Tryd.f62 [.one] [.v] [(false, .imm)] [⟨(.int .i64), .imm, x0⟩] (fun r i => some (r, i)) = bindO (zAE N x0) fun r => some ([⟨(.int .i64), .imm, r⟩], []) := by
  show _ = bindF _ _
  conv => rhs; simp only [zAE, bindF_ifB, bindF_bindO, bindF_pure, bindF_none, bindF_onSum, zAE.q6]
  kernel_rfl
theorem zAE.ok (N : Nat) : ConOk Tryd.prog 62 [.one] (zAE.con N) := ok1 (g := zAE.cfg N) (N := N) (res := [(false, .imm)]) tys_ok (zAE.cons N) mixed Tryd.func62 (zAE.ls N) rfl (zAE.b N)
theorem zAE.det (N : Nat) : ConDet (zAE.con N) := det1
def zAA.sk2 : Skel := ⟨dd 1 (.ptr 50 [] :: (dd 4 (.pv s40 :: (.pv (.int .i64) :: (.pv (.int .i64) :: (dd 29 [])))))), [⟨50, s41, .imm, true, false⟩]⟩
def zAA.xs2 : List XS := [⟨.exit 0, [1], ⟨dd 1 (.ptr 50 [] :: (dd 36 [])), [⟨50, s41, .imm, true, false⟩]⟩⟩, ⟨.ret, [2], ⟨dd 2 (.pv .bool :: (dd 35 [])), []⟩⟩]
def zAA.con (N : Nat) : Con := { modes := [.v], ptrs := [false], fn := fn1 s41 .imm (zAA N) (fun r => [⟨.bool, .imm, r⟩]) (fun r => []) }
def zAA.cfg (N : Nat) : Cfg := { ty := tys, keep := [14, 18, 24, 36], flt := [], elm := elm0, live := [(2, [1, 6, 7, 8])], ord := [], con := [((60, [.one]), zB5.con N), ((61, [.one]), zAZ.con N), ((62, [.one]), zAE.con N), ((50, [.one, .one, .one]), zAT.con N)], loops := [(2, loopCon N zAA.sk2 zAA.xs2 (fun {R} => zAA.l2 (R := R) N))], joins := [] }
theorem zAA.cons (N : Nat) : ConsOk Tryd.prog (zAA.cfg N).con := (consOk_cons (hb60) (zB5.ok N) (zB5.det N) (consOk_cons (hb61) (zAZ.ok N) (zAZ.det N) (consOk_cons (hb62) (zAE.ok N) (zAE.det N) (consOk_cons (hb50) (zAT.ok N) (zAT.det N) consOk_nil))))
theorem zAA.h2 {R : Type} (N : Nat) (d : zAA.sk2.D) (kn : zAA.sk2.D → Option R) (kx : XD zAA.xs2 → Option R) : roundK (zAA.cfg N) N (nthLoop (fnBody Tryd.f55) 0) zAA.sk2 zAA.xs2 d kn kx = zAA.l2 N d kn kx := by kernel_rfl
theorem zAA.i2 (N : Nat) : LoopsOk Tryd.prog (zAA.cfg N) (nthLoop (fnBody Tryd.f55) 0) := loopsL (l := []) (by kernel_rfl) trivial
theorem zAA.o2 (N : Nat) : LoopOk Tryd.prog (nthLoop (fnBody Tryd.f55) 0) (loopCon N zAA.sk2 zAA.xs2 (fun {R} => zAA.l2 (R := R) N)) := loop_ok (g := zAA.cfg N) tys_ok (zAA.cons N) mixed (zAA.i2 N) (fun d kn kx => zAA.h2 N d kn kx)
theorem zAA.ls (N : Nat) : LoopsOk Tryd.prog (zAA.cfg N) (fnBody Tryd.f55) := loopsL (l := [nthLoop (fnBody Tryd.f55) 0]) (by kernel_rfl) ⟨loopOne (L0 := loopCon N zAA.sk2 zAA.xs2 (fun {R} => zAA.l2 (R := R) N)) (id := 2) (by kernel_rfl) (by kernel_rfl) (zAA.o2 N), trivial⟩
theorem zAA.q2 {R R' : Type} {N n : Nat} {d} {k} {g : R → Option R'} : bindF (loopP (zAA.l2 N) n d k) g = loopP (zAA.l2 N) n d fun e => bindF (k e) g := bindF_loopP (fun d kn kx => by simp only [zAA.l2, bindF_ifB, bindF_bindO, bindF_pure, bindF_none, bindF_onSum]) n d k
theorem zAA.b (N : Nat) (x0 : den s41) : body (zAA.cfg N) N Tryd.f55 [.one] [.v] [(false, .imm)] [⟨s41, .imm, x0⟩] (fun r i => some (r, i)) = bindO (zAA N x0) fun r => some ([⟨.bool, .imm, r⟩], []) := by
  show _ = bindF _ _
  conv => rhs; simp only [zAA, bindF_ifB, bindF_bindO, bindF_pure, bindF_none, bindF_onSum, zAA.q2]
  kernel_rfl
theorem zAA.ok (N : Nat) : ConOk Tryd.prog 55 [.one] (zAA.con N) := ok1 (g := zAA.cfg N) (N := N) (res := [(false, .imm)]) tys_ok (zAA.cons N) mixed Tryd.func55 (zAA.ls N) rfl (zAA.b N)
theorem zAA.det (N : Nat) : ConDet (zAA.con N) := det1
def zAU.con (N : Nat) : Con := { modes := [.rd], ptrs := [false], fn := fn1 s41 .imm (zAU N) (fun r => [⟨.bool, .imm, r⟩]) (fun r => []) }
def zAU.cfg (N : Nat) : Cfg := { ty := tys, keep := [16], flt := [], elm := elm0, live := [], ord := [], con := [((62, [.one]), zAE.con N)], loops := [], joins := [] }
theorem zAU.cons (N : Nat) : ConsOk Tryd.prog (zAU.cfg N).con := (consOk_cons (hb62) (zAE.ok N) (zAE.det N) consOk_nil)
theorem zAU.ls (N : Nat) : LoopsOk Tryd.prog (zAU.cfg N) (fnBody Tryd.f56) := loopsL (l := []) (by kernel_rfl) trivial
theorem zAU.b (N : Nat) (x0 : den s41) : body (zAU.cfg N) N Tryd.f56 [.one] [.rd] [(false, .imm)] [⟨s41, .imm, x0⟩] (fun r i => some (r, i)) = bindO (zAU N x0) fun r => some ([⟨.bool, .imm, r⟩], []) := by
  show _ = bindF _ _
  conv => rhs; simp only [zAU, bindF_ifB, bindF_bindO, bindF_pure, bindF_none, bindF_onSum]
  kernel_rfl
theorem zAU.ok (N : Nat) : ConOk Tryd.prog 56 [.one] (zAU.con N) := ok1 (g := zAU.cfg N) (N := N) (res := [(false, .imm)]) tys_ok (zAU.cons N) mixed Tryd.func56 (zAU.ls N) rfl (zAU.b N)
theorem zAU.det (N : Nat) : ConDet (zAU.con N) := det1
def zAQ.con (N : Nat) : Con := { modes := [.rd], ptrs := [false], fn := fn1 s41 .imm (zAQ N) (fun r => [⟨.bool, .imm, r⟩]) (fun r => []) }
def zAQ.cfg (N : Nat) : Cfg := { ty := tys, keep := [], flt := [], elm := elm0, live := [], ord := [], con := [], loops := [], joins := [] }
theorem zAQ.cons (N : Nat) : ConsOk Tryd.prog (zAQ.cfg N).con := consOk_nil
theorem zAQ.ls (N : Nat) : LoopsOk Tryd.prog (zAQ.cfg N) (fnBody Tryd.f43) := loopsL (l := []) (by kernel_rfl) trivial
theorem zAQ.b (N : Nat) (x0 : den s41) : body (zAQ.cfg N) N Tryd.f43 [.one] [.rd] [(false, .imm)] [⟨s41, .imm, x0⟩] (fun r i => some (r, i)) = bindO (zAQ N x0) fun r => some ([⟨.bool, .imm, r⟩], []) := by
  show _ = bindF _ _
  conv => rhs; simp only [zAQ, bindF_ifB, bindF_bindO, bindF_pure, bindF_none, bindF_onSum]
  kernel_rfl
theorem zAQ.ok (N : Nat) : ConOk Tryd.prog 43 [.one] (zAQ.con N) := ok1 (g := zAQ.cfg N) (N := N) (res := [(false, .imm)]) tys_ok (zAQ.cons N) mixed Tryd.func43 (zAQ.ls N) rfl (zAQ.b N)
theorem zAQ.det (N : Nat) : ConDet (zAQ.con N) := det1
def zA6.sk4 : Skel := ⟨dd 1 (.ptr 50 [] :: (dd 61 (.pv s27 :: (.pv (.int .i64) :: (.pv (.int .i64) :: (dd 37 [])))))), [⟨50, s28, .imm, true, false⟩]⟩
def zA6.xs4 : List XS := [⟨.exit 0, [], ⟨dd 103 [], []⟩⟩, ⟨.ret, [2], ⟨dd 2 (.pv .bool :: (dd 100 [])), []⟩⟩]
def zA6.con (N : Nat) : Con := { modes := [.v], ptrs := [false], fn := fn1 s28 .imm (zA6 N) (fun r => [⟨.bool, .imm, r⟩]) (fun r => []) }
def zA6.cfg (N : Nat) : Cfg := { ty := tys, keep := [7, 12, 18, 32, 41, 59, 71, 73, 87], flt := [], elm := elm0, live := [(4, [1, 63, 64, 65])], ord := [(1, [0, 1, 2, 3, 4, 5, 6, 7, 8, 9, 10, 11, 12, 14, 15, 16, 17, 18, 13, 19, 20, 21, 22, 23, 24, 25, 26, 27, 28, 29, 30, 31, 32, 33, 34, 35, 36, 37, 38, 39, 40, 41, 42, 43, 44, 45, 46, 47, 48, 49, 50, 51, 52, 53, 54, 55, 56]), (9, [0, 1, 2, 3, 4, 5, 6, 7, 8, 9, 10, 11, 12, 13, 14, 15, 16, 17, 18, 19, 20, 21, 22, 23, 24, 25, 26])], con := [((32, [.one]), zB8.con N), ((33, [.one]), zB9.con N), ((41, [.one]), zAP.con N), ((50, [.one, .one, .one]), zAT.con N), ((55, [.one]), zAA.con N), ((56, [.one]), zAU.con N), ((43, [.one]), zAQ.con N)], loops := [(4, loopCon N zA6.sk4 zA6.xs4 (fun {R} => zA6.l4 (R := R) N))], joins := [(11, [⟨.normal, [1, 63, 64, 65], ⟨dd 1 (.ptr 50 [] :: (dd 61 (.pv s27 :: (.pv (.int .i64) :: (.pv (.int .i64) :: (dd 37 [])))))), [⟨50, s28, .imm, true, false⟩]⟩⟩, ⟨.ret, [2], ⟨dd 2 (.pv .bool :: (dd 100 [])), []⟩⟩])] }
theorem zA6.cons (N : Nat) : ConsOk Tryd.prog (zA6.cfg N).con := (consOk_cons (hb32) (zB8.ok N) (zB8.det N) (consOk_cons (hb33) (zB9.ok N) (zB9.det N) (consOk_cons (hb41) (zAP.ok N) (zAP.det N) (consOk_cons (hb50) (zAT.ok N) (zAT.det N) (consOk_cons (hb55) (zAA.ok N) (zAA.det N) (consOk_cons (hb56) (zAU.ok N) (zAU.det N) (consOk_cons (hb43) (zAQ.ok N) (zAQ.det N) consOk_nil)))))))
theorem zA6.h4 {R : Type} (N : Nat) (d : zA6.sk4.D) (kn : zA6.sk4.D → Option R) (kx : XD zA6.xs4 → Option R) : roundK (zA6.cfg N) N (nthLoop (fnBody Tryd.f40) 0) zA6.sk4 zA6.xs4 d kn kx = zA6.l4 N d kn kx := by kernel_rfl
theorem zA6.i4 (N : Nat) : LoopsOk Tryd.prog (zA6.cfg N) (nthLoop (fnBody Tryd.f40) 0) := loopsL (l := []) (by kernel_rfl) trivial
theorem zA6.o4 (N : Nat) : LoopOk Tryd.prog (nthLoop (fnBody Tryd.f40) 0) (loopCon N zA6.sk4 zA6.xs4 (fun {R} => zA6.l4 (R := R) N)) := loop_ok (g := zA6.cfg N) tys_ok (zA6.cons N) mixed (zA6.i4 N) (fun d kn kx => zA6.h4 N d kn kx)
theorem zA6.ls (N : Nat) : LoopsOk Tryd.prog (zA6.cfg N) (fnBody Tryd.f40) := loopsL (l := [nthLoop (fnBody Tryd.f40) 0]) (by kernel_rfl) ⟨loopOne (L0 := loopCon N zA6.sk4 zA6.xs4 (fun {R} => zA6.l4 (R := R) N)) (id := 4) (by kernel_rfl) (by kernel_rfl) (zA6.o4 N), trivial⟩
theorem zA6.q4 {R R' : Type} {N n : Nat} {d} {k} {g : R → Option R'} : bindF (loopP (zA6.l4 N) n d k) g = loopP (zA6.l4 N) n d fun e => bindF (k e) g := bindF_loopP (fun d kn kx => by simp only [zA6.l4, bindF_ifB, bindF_bindO, bindF_pure, bindF_none, bindF_onSum]) n d k
theorem zA6.b (N : Nat) (x0 : den s28) : body (zA6.cfg N) N Tryd.f40 [.one] [.v] [(false, .imm)] [⟨s28, .imm, x0⟩] (fun r i => some (r, i)) = bindO (zA6 N x0) fun r => some ([⟨.bool, .imm, r⟩], []) := by
  show _ = bindF _ _
  conv => rhs; simp only [zA6, bindF_ifB, bindF_bindO, bindF_pure, bindF_none, bindF_onSum, zA6.q4]
  kernel_rfl
theorem zA6.ok (N : Nat) : ConOk Tryd.prog 40 [.one] (zA6.con N) := ok1 (g := zA6.cfg N) (N := N) (res := [(false, .imm)]) tys_ok (zA6.cons N) mixed Tryd.func40 (zA6.ls N) rfl (zA6.b N)
theorem zA6.det (N : Nat) : ConDet (zA6.con N) := det1
end Go.AE.F
end
