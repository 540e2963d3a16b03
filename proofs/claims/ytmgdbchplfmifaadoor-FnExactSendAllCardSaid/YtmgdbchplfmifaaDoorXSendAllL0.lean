/- The printed functions are what the program comes to: contracts. -/
import Derived.Test.YtmgdbchplfmifaaDoorXSendAllF4
import Derived.Test.YtmgdbchplfmifaaDoorXSendAllT
noncomputable section
namespace Go.AE.F
open Go.AE Go.Proofs
set_option maxRecDepth 100000
def zB6.con (N : Nat) : Con := { modes := [.v, .v], ptrs := [false], fn := fn2 s40 .imm (.int .i64) .imm (zB6 N) (fun r => [⟨(.int .i64), .imm, r⟩]) (fun r => []) }
def zB6.cfg (N : Nat) : Cfg := { ty := tys, keep := [], flt := [], elm := elm0, live := [], ord := [], con := [], loops := [], joins := [] }
theorem zB6.cons (N : Nat) : ConsOk Tryd.prog (zB6.cfg N).con := consOk_nil
theorem zB6.ls (N : Nat) : LoopsOk Tryd.prog (zB6.cfg N) (fnBody Tryd.f35) := loopsL (l := []) (by kernel_rfl) trivial
theorem zB6.b (N : Nat) (x0 : den s40) (x1 : den (.int .i64)) : body (zB6.cfg N) N Tryd.f35 [.one, .one] [.v, .v] [(false, .imm)] [⟨s40, .imm, x0⟩, ⟨(.int .i64), .imm, x1⟩] (fun r i => some (r, i)) = bindO (zB6 N x0 x1) fun r => some ([⟨(.int .i64), .imm, r⟩], []) := by
  show _ = bindF _ _
  conv => rhs; simp only [zB6, bindF_ifB, bindF_bindO, bindF_pure, bindF_none, bindF_onSum]
  kernel_rfl
theorem zB6.ok (N : Nat) : ConOk Tryd.prog 35 [.one, .one] (zB6.con N) := ok2 (g := zB6.cfg N) (N := N) (res := [(false, .imm)]) tys_ok (zB6.cons N) mixed Tryd.func35 (zB6.ls N) rfl (zB6.b N)
theorem zB6.det (N : Nat) : ConDet (zB6.con N) := det2
def zBK.con (N : Nat) : Con := { modes := [.v, .v], ptrs := [false], fn := fn2 s41 .imm (.int .i64) .imm (zBK N) (fun r => [⟨(.int .i64), .imm, r⟩]) (fun r => []) }
def zBK.cfg (N : Nat) : Cfg := { ty := tys, keep := [8], flt := [], elm := elm0, live := [], ord := [], con := [((35, [.one, .one]), zB6.con N)], loops := [], joins := [] }
theorem zBK.cons (N : Nat) : ConsOk Tryd.prog (zBK.cfg N).con := (consOk_cons (hb35) (zB6.ok N) (zB6.det N) consOk_nil)
theorem zBK.ls (N : Nat) : LoopsOk Tryd.prog (zBK.cfg N) (fnBody Tryd.f17) := loopsL (l := []) (by kernel_rfl) trivial
theorem zBK.b (N : Nat) (x0 : den s41) (x1 : den (.int .i64)) : body (zBK.cfg N) N Tryd.f17 [.one, .one] [.v, .v] [(false, .imm)] [⟨s41, .imm, x0⟩, ⟨(.int .i64), .imm, x1⟩] (fun r i => some (r, i)) = bindO (zBK N x0 x1) fun r => some ([⟨(.int .i64), .imm, r⟩], []) := by
  show _ = bindF _ _
  conv => rhs; simp only [zBK, bindF_ifB, bindF_bindO, bindF_pure, bindF_none, bindF_onSum]
  kernel_rfl
theorem zBK.ok (N : Nat) : ConOk Tryd.prog 17 [.one, .one] (zBK.con N) := ok2 (g := zBK.cfg N) (N := N) (res := [(false, .imm)]) tys_ok (zBK.cons N) mixed Tryd.func17 (zBK.ls N) rfl (zBK.b N)
theorem zBK.det (N : Nat) : ConDet (zBK.con N) := det2
def zAH.sk5 : Skel := ⟨.pv s22 :: (.pv (.int .i64) :: (dd 3 (.pv (.int .i64) :: (dd 21 [])))), []⟩
def zAH.xs5 : List XS := [⟨.exit 0, [1], ⟨dd 1 (.pv (.int .i64) :: (dd 25 [])), []⟩⟩, ⟨.ret, [4], ⟨dd 4 (.pv (.int .i64) :: (dd 22 [])), []⟩⟩]
def zAH.con (N : Nat) : Con := { modes := [.v, .v], ptrs := [false], fn := fn2 s22 .imm (.int .i64) .imm (zAH N) (fun r => [⟨(.int .i64), .imm, r⟩]) (fun r => []) }
def zAH.cfg (N : Nat) : Cfg := { ty := tys, keep := [23], flt := [], elm := elm0, live := [(5, [0, 1, 5])], ord := [], con := [((17, [.one, .one]), zBK.con N)], loops := [(5, loopCon N zAH.sk5 zAH.xs5 (fun {R} => zAH.l5 (R := R) N))], joins := [] }
theorem zAH.cons (N : Nat) : ConsOk Tryd.prog (zAH.cfg N).con := (consOk_cons (hb17) (zBK.ok N) (zBK.det N) consOk_nil)
theorem zAH.h5 {R : Type} (N : Nat) (d : zAH.sk5.D) (kn : zAH.sk5.D → Option R) (kx : XD zAH.xs5 → Option R) : roundK (zAH.cfg N) N (nthLoop (fnBody Tryd.f9) 0) zAH.sk5 zAH.xs5 d kn kx = zAH.l5 N d kn kx := by kernel_rfl
theorem zAH.i5 (N : Nat) : LoopsOk Tryd.prog (zAH.cfg N) (nthLoop (fnBody Tryd.f9) 0) := loopsL (l := []) (by kernel_rfl) trivial
theorem zAH.o5 (N : Nat) : LoopOk Tryd.prog (nthLoop (fnBody Tryd.f9) 0) (loopCon N zAH.sk5 zAH.xs5 (fun {R} => zAH.l5 (R := R) N)) := loop_ok (g := zAH.cfg N) tys_ok (zAH.cons N) mixed (zAH.i5 N) (fun d kn kx => zAH.h5 N d kn kx)
theorem zAH.ls (N : Nat) : LoopsOk Tryd.prog (zAH.cfg N) (fnBody Tryd.f9) := loopsL (l := [nthLoop (fnBody Tryd.f9) 0]) (by kernel_rfl) ⟨loopOne (L0 := loopCon N zAH.sk5 zAH.xs5 (fun {R} => zAH.l5 (R := R) N)) (id := 5) (by kernel_rfl) (by kernel_rfl) (zAH.o5 N), trivial⟩
theorem zAH.q5 {R R' : Type} {N n : Nat} {d} {k} {g : R → Option R'} : bindF (loopP (zAH.l5 N) n d k) g = loopP (zAH.l5 N) n d fun e => bindF (k e) g := bindF_loopP (fun d kn kx => by simp only [zAH.l5, bindF_ifB, bindF_bindO, bindF_pure, bindF_none, bindF_onSum]) n d k
theorem zAH.b (N : Nat) (x0 : den s22) (x1 : den (.int .i64)) : body (zAH.cfg N) N Tryd.f9 [.one, .one] [.v, .v] [(false, .imm)] [⟨s22, .imm, x0⟩, ⟨(.int .i64), .imm, x1⟩] (fun r i => some (r, i)) = bindO (zAH N x0 x1) fun r => some ([⟨(.int .i64), .imm, r⟩], []) := by
  show _ = bindF _ _
  conv => rhs; simp only [zAH, bindF_ifB, bindF_bindO, bindF_pure, bindF_none, bindF_onSum, zAH.q5]
  kernel_rfl
theorem zAH.ok (N : Nat) : ConOk Tryd.prog 9 [.one, .one] (zAH.con N) := ok2 (g := zAH.cfg N) (N := N) (res := [(false, .imm)]) tys_ok (zAH.cons N) mixed Tryd.func9 (zAH.ls N) rfl (zAH.b N)
theorem zAH.det (N : Nat) : ConDet (zAH.con N) := det2
def zBI.con (N : Nat) : Con := { modes := [.v, .v], ptrs := [false], fn := fn2 s23 .imm (.int .i64) .imm (zBI N) (fun r => [⟨(.int .i64), .imm, r⟩]) (fun r => []) }
def zBI.cfg (N : Nat) : Cfg := { ty := tys, keep := [8], flt := [], elm := elm0, live := [], ord := [], con := [((9, [.one, .one]), zAH.con N)], loops := [], joins := [] }
theorem zBI.cons (N : Nat) : ConsOk Tryd.prog (zBI.cfg N).con := (consOk_cons (hb9) (zAH.ok N) (zAH.det N) consOk_nil)
theorem zBI.ls (N : Nat) : LoopsOk Tryd.prog (zBI.cfg N) (fnBody Tryd.f4) := loopsL (l := []) (by kernel_rfl) trivial
theorem zBI.b (N : Nat) (x0 : den s23) (x1 : den (.int .i64)) : body (zBI.cfg N) N Tryd.f4 [.one, .one] [.v, .v] [(false, .imm)] [⟨s23, .imm, x0⟩, ⟨(.int .i64), .imm, x1⟩] (fun r i => some (r, i)) = bindO (zBI N x0 x1) fun r => some ([⟨(.int .i64), .imm, r⟩], []) := by
  show _ = bindF _ _
  conv => rhs; simp only [zBI, bindF_ifB, bindF_bindO, bindF_pure, bindF_none, bindF_onSum]
  kernel_rfl
theorem zBI.ok (N : Nat) : ConOk Tryd.prog 4 [.one, .one] (zBI.con N) := ok2 (g := zBI.cfg N) (N := N) (res := [(false, .imm)]) tys_ok (zBI.cons N) mixed Tryd.func4 (zBI.ls N) rfl (zBI.b N)
theorem zBI.det (N : Nat) : ConDet (zBI.con N) := det2
def zAD.sk3 : Skel := ⟨.pv s40 :: (dd 2 (.ov 50 [] :: (.pv (.int .i64) :: (dd 17 [])))), [⟨50, s40, (.own .imm), false, false⟩]⟩
def zAD.xs3 : List XS := [⟨.exit 0, [3], ⟨dd 3 (.ov 50 [] :: (dd 18 [])), [⟨50, s40, (.own .imm), false, false⟩]⟩⟩]
def zAD.con (N : Nat) : Con := { modes := [.v], ptrs := [false], fn := fn1 s40 .imm (zAD N) (fun r => [⟨s40, (.own .imm), r⟩]) (fun r => []) }
def zAD.cfg (N : Nat) : Cfg := { ty := tys, keep := [], flt := [], elm := elm0, live := [(3, [0, 3, 4])], ord := [], con := [], loops := [(3, loopCon N zAD.sk3 zAD.xs3 (fun {R} => zAD.l3 (R := R) N))], joins := [] }
theorem zAD.cons (N : Nat) : ConsOk Tryd.prog (zAD.cfg N).con := consOk_nil
theorem zAD.h3 {R : Type} (N : Nat) (d : zAD.sk3.D) (kn : zAD.sk3.D → Option R) (kx : XD zAD.xs3 → Option R) : roundK (zAD.cfg N) N (nthLoop (fnBody Tryd.f39) 0) zAD.sk3 zAD.xs3 d kn kx = zAD.l3 N d kn kx := by kernel_rfl
theorem zAD.i3 (N : Nat) : LoopsOk Tryd.prog (zAD.cfg N) (nthLoop (fnBody Tryd.f39) 0) := loopsL (l := []) (by kernel_rfl) trivial
theorem zAD.o3 (N : Nat) : LoopOk Tryd.prog (nthLoop (fnBody Tryd.f39) 0) (loopCon N zAD.sk3 zAD.xs3 (fun {R} => zAD.l3 (R := R) N)) := loop_ok (g := zAD.cfg N) tys_ok (zAD.cons N) mixed (zAD.i3 N) (fun d kn kx => zAD.h3 N d kn kx)
theorem zAD.ls (N : Nat) : LoopsOk Tryd.prog (zAD.cfg N) (fnBody Tryd.f39) := loopsL (l := [nthLoop (fnBody Tryd.f39) 0]) (by kernel_rfl) ⟨loopOne (L0 := loopCon N zAD.sk3 zAD.xs3 (fun {R} => zAD.l3 (R := R) N)) (id := 3) (by kernel_rfl) (by kernel_rfl) (zAD.o3 N), trivial⟩
theorem zAD.q3 {R R' : Type} {N n : Nat} {d} {k} {g : R → Option R'} : bindF (loopP (zAD.l3 N) n d k) g = loopP (zAD.l3 N) n d fun e => bindF (k e) g := bindF_loopP (fun d kn kx => by simp only [zAD.l3, bindF_ifB, bindF_bindO, bindF_pure, bindF_none, bindF_onSum]) n d k
theorem zAD.b (N : Nat) (x0 : den s40) : body (zAD.cfg N) N Tryd.f39 [.one] [.v] [(false, (.own .imm))] [⟨s40, .imm, x0⟩] (fun r i => some (r, i)) = bindO (zAD N x0) fun r => some ([⟨s40, (.own .imm), r⟩], []) := by
  show _ = bindF _ _
  conv => rhs; simp only [zAD, bindF_ifB, bindF_bindO, bindF_pure, bindF_none, bindF_onSum, zAD.q3]
  kernel_rfl
theorem zAD.ok (N : Nat) : ConOk Tryd.prog 39 [.one] (zAD.con N) := ok1 (g := zAD.cfg N) (N := N) (res := [(false, (.own .imm))]) tys_ok (zAD.cons N) mixed Tryd.func39 (zAD.ls N) rfl (zAD.b N)
theorem zAD.det (N : Nat) : ConDet (zAD.con N) := det1
def zBG.con (N : Nat) : Con := { modes := [.v], ptrs := [false], fn := fn1 s41 .imm (zBG N) (fun r => [⟨s41, (.pr (.own .imm) .imm), r⟩]) (fun r => []) }
def zBG.cfg (N : Nat) : Cfg := { ty := tys, keep := [6], flt := [], elm := elm0, live := [], ord := [], con := [((39, [.one]), zAD.con N)], loops := [], joins := [] }
theorem zBG.cons (N : Nat) : ConsOk Tryd.prog (zBG.cfg N).con := (consOk_cons (hb39) (zAD.ok N) (zAD.det N) consOk_nil)
theorem zBG.ls (N : Nat) : LoopsOk Tryd.prog (zBG.cfg N) (fnBody Tryd.f24) := loopsL (l := []) (by kernel_rfl) trivial
theorem zBG.b (N : Nat) (x0 : den s41) : body (zBG.cfg N) N Tryd.f24 [.one] [.v] [(false, (.pr (.own .imm) .imm))] [⟨s41, .imm, x0⟩] (fun r i => some (r, i)) = bindO (zBG N x0) fun r => some ([⟨s41, (.pr (.own .imm) .imm), r⟩], []) := by
  show _ = bindF _ _
  conv => rhs; simp only [zBG, bindF_ifB, bindF_bindO, bindF_pure, bindF_none, bindF_onSum]
  kernel_rfl
theorem zBG.ok (N : Nat) : ConOk Tryd.prog 24 [.one] (zBG.con N) := ok1 (g := zBG.cfg N) (N := N) (res := [(false, (.pr (.own .imm) .imm))]) tys_ok (zBG.cons N) mixed Tryd.func24 (zBG.ls N) rfl (zBG.b N)
theorem zBG.det (N : Nat) : ConDet (zBG.con N) := det1
def zAL.sk3 : Skel := ⟨.pv s22 :: (dd 2 (.ov 50 [] :: (.pv (.int .i64) :: (dd 18 [])))), [⟨50, s27, (.own (.pr (.own .imm) .imm)), false, false⟩]⟩
def zAL.xs3 : List XS := [⟨.exit 0, [3], ⟨dd 3 (.ov 50 [] :: (dd 19 [])), [⟨50, s27, (.own (.pr (.own .imm) .imm)), false, false⟩]⟩⟩]
def zAL.con (N : Nat) : Con := { modes := [.v], ptrs := [false], fn := fn1 s22 .imm (zAL N) (fun r => [⟨s27, (.own (.pr (.own .imm) .imm)), r⟩]) (fun r => []) }
def zAL.cfg (N : Nat) : Cfg := { ty := tys, keep := [20], flt := [], elm := elm0, live := [(3, [0, 3, 4])], ord := [], con := [((24, [.one]), zBG.con N)], loops := [(3, loopCon N zAL.sk3 zAL.xs3 (fun {R} => zAL.l3 (R := R) N))], joins := [] }
theorem zAL.cons (N : Nat) : ConsOk Tryd.prog (zAL.cfg N).con := (consOk_cons (hb24) (zBG.ok N) (zBG.det N) consOk_nil)
theorem zAL.h3 {R : Type} (N : Nat) (d : zAL.sk3.D) (kn : zAL.sk3.D → Option R) (kx : XD zAL.xs3 → Option R) : roundK (zAL.cfg N) N (nthLoop (fnBody Tryd.f13) 0) zAL.sk3 zAL.xs3 d kn kx = zAL.l3 N d kn kx := by kernel_rfl
theorem zAL.i3 (N : Nat) : LoopsOk Tryd.prog (zAL.cfg N) (nthLoop (fnBody Tryd.f13) 0) := loopsL (l := []) (by kernel_rfl) trivial
theorem zAL.o3 (N : Nat) : LoopOk Tryd.prog (nthLoop (fnBody Tryd.f13) 0) (loopCon N zAL.sk3 zAL.xs3 (fun {R} => zAL.l3 (R := R) N)) := loop_ok (g := zAL.cfg N) tys_ok (zAL.cons N) mixed (zAL.i3 N) (fun d kn kx => zAL.h3 N d kn kx)
theorem zAL.ls (N : Nat) : LoopsOk Tryd.prog (zAL.cfg N) (fnBody Tryd.f13) := loopsL (l := [nthLoop (fnBody Tryd.f13) 0]) (by kernel_rfl) ⟨loopOne (L0 := loopCon N zAL.sk3 zAL.xs3 (fun {R} => zAL.l3 (R := R) N)) (id := 3) (by kernel_rfl) (by kernel_rfl) (zAL.o3 N), trivial⟩
theorem zAL.q3 {R R' : Type} {N n : Nat} {d} {k} {g : R → Option R'} : bindF (loopP (zAL.l3 N) n d k) g = loopP (zAL.l3 N) n d fun e => bindF (k e) g := bindF_loopP (fun d kn kx => by simp only [zAL.l3, bindF_ifB, bindF_bindO, bindF_pure, bindF_none, bindF_onSum]) n d k
theorem zAL.b (N : Nat) (x0 : den s22) : body (zAL.cfg N) N Tryd.f13 [.one] [.v] [(false, (.own (.pr (.own .imm) .imm)))] [⟨s22, .imm, x0⟩] (fun r i => some (r, i)) = bindO (zAL N x0) fun r => some ([⟨s27, (.own (.pr (.own .imm) .imm)), r⟩], []) := by
  show _ = bindF _ _
  conv => rhs; simp only [zAL, bindF_ifB, bindF_bindO, bindF_pure, bindF_none, bindF_onSum, zAL.q3]
  kernel_rfl
theorem zAL.ok (N : Nat) : ConOk Tryd.prog 13 [.one] (zAL.con N) := ok1 (g := zAL.cfg N) (N := N) (res := [(false, (.own (.pr (.own .imm) .imm)))]) tys_ok (zAL.cons N) mixed Tryd.func13 (zAL.ls N) rfl (zAL.b N)
theorem zAL.det (N : Nat) : ConDet (zAL.con N) := det1
def zBF.con (N : Nat) : Con := { modes := [.v], ptrs := [false], fn := fn1 s23 .imm (zBF N) (fun r => [⟨s28, (.pr .imm (.pr .imm (.pr (.own (.pr (.own .imm) .imm)) .imm))), r⟩]) (fun r => []) }
def zBF.cfg (N : Nat) : Cfg := { ty := tys, keep := [12], flt := [], elm := elm0, live := [], ord := [], con := [((13, [.one]), zAL.con N)], loops := [], joins := [] }
theorem zBF.cons (N : Nat) : ConsOk Tryd.prog (zBF.cfg N).con := (consOk_cons (hb13) (zAL.ok N) (zAL.det N) consOk_nil)
theorem zBF.ls (N : Nat) : LoopsOk Tryd.prog (zBF.cfg N) (fnBody Tryd.f6) := loopsL (l := []) (by kernel_rfl) trivial
theorem zBF.b (N : Nat) (x0 : den s23) : body (zBF.cfg N) N Tryd.f6 [.one] [.v] [(false, (.pr .imm (.pr .imm (.pr (.own (.pr (.own .imm) .imm)) .imm))))] [⟨s23, .imm, x0⟩] (fun r i => some (r, i)) = bindO (zBF N x0) fun r => some ([⟨s28, (.pr .imm (.pr .imm (.pr (.own (.pr (.own .imm) .imm)) .imm))), r⟩], []) := by
  show _ = bindF _ _
  conv => rhs; simp only [zBF, bindF_ifB, bindF_bindO, bindF_pure, bindF_none, bindF_onSum]
  kernel_rfl
theorem zBF.ok (N : Nat) : ConOk Tryd.prog 6 [.one] (zBF.con N) := ok1 (g := zBF.cfg N) (N := N) (res := [(false, (.pr .imm (.pr .imm (.pr (.own (.pr (.own .imm) .imm)) .imm))))]) tys_ok (zBF.cons N) mixed Tryd.func6 (zBF.ls N) rfl (zBF.b N)
theorem zBF.det (N : Nat) : ConDet (zBF.con N) := det1
def zB2.con (N : Nat) : Con := { modes := [.v, .v], ptrs := [false], fn := fn2 (.int .i64) .imm (.int .i64) .imm (zB2 N) (fun r => [⟨.bool, .imm, r⟩]) (fun r => []) }
def zB2.cfg (N : Nat) : Cfg := { ty := tys, keep := [], flt := [], elm := elm0, live := [], ord := [], con := [], loops := [], joins := [] }
theorem zB2.cons (N : Nat) : ConsOk Tryd.prog (zB2.cfg N).con := consOk_nil
theorem zB2.ls (N : Nat) : LoopsOk Tryd.prog (zB2.cfg N) (fnBody Tryd.f23) := loopsL (l := []) (by kernel_rfl) trivial
theorem zB2.b (N : Nat) (x0 : den (.int .i64)) (x1 : den (.int .i64)) : body (zB2.cfg N) N Tryd.f23 [.one, .one] [.v, .v] [(false, .imm)] [⟨(.int .i64), .imm, x0⟩, ⟨(.int .i64), .imm, x1⟩] (fun r i => some (r, i)) = bindO (zB2 N x0 x1) fun r => some ([⟨.bool, .imm, r⟩], []) := by
  show _ = bindF _ _
  conv => rhs; simp only [zB2, bindF_ifB, bindF_bindO, bindF_pure, bindF_none, bindF_onSum]
  kernel_rfl
theorem zB2.ok (N : Nat) : ConOk Tryd.prog 23 [.one, .one] (zB2.con N) := ok2 (g := zB2.cfg N) (N := N) (res := [(false, .imm)]) tys_ok (zB2.cons N) mixed Tryd.func23 (zB2.ls N) rfl (zB2.b N)
theorem zB2.det (N : Nat) : ConDet (zB2.con N) := det2
def zB0.con (N : Nat) : Con := { modes := [.v], ptrs := [false], fn := fn1 (.int .i64) .imm (zB0 N) (fun r => [⟨.bool, .imm, r⟩]) (fun r => []) }
def zB0.cfg (N : Nat) : Cfg := { ty := tys, keep := [], flt := [], elm := elm0, live := [], ord := [], con := [], loops := [], joins := [] }
theorem zB0.cons (N : Nat) : ConsOk Tryd.prog (zB0.cfg N).con := consOk_nil
theorem zB0.ls (N : Nat) : LoopsOk Tryd.prog (zB0.cfg N) (fnBody Tryd.f52) := loopsL (l := []) (by kernel_rfl) trivial
theorem zB0.b (N : Nat) (x0 : den (.int .i64)) : body (zB0.cfg N) N Tryd.f52 [.one] [.v] [(false, .imm)] [⟨(.int .i64), .imm, x0⟩] (fun r i => some (r, i)) = bindO (zB0 N x0) fun r => some ([⟨.bool, .imm, r⟩], []) := by
  show _ = bindF _ _
  conv => rhs; simp only [zB0, bindF_ifB, bindF_bindO, bindF_pure, bindF_none, bindF_onSum]
  kernel_rfl
theorem zB0.ok (N : Nat) : ConOk Tryd.prog 52 [.one] (zB0.con N) := ok1 (g := zB0.cfg N) (N := N) (res := [(false, .imm)]) tys_ok (zB0.cons N) mixed Tryd.func52 (zB0.ls N) rfl (zB0.b N)
theorem zB0.det (N : Nat) : ConDet (zB0.con N) := det1
def zB4.con (N : Nat) : Con := { modes := [.v], ptrs := [false], fn := fn1 (.int .i64) .imm (zB4 N) (fun r => [⟨(.int .i64), .imm, r⟩]) (fun r => []) }
def zB4.cfg (N : Nat) : Cfg := { ty := tys, keep := [4], flt := [], elm := elm0, live := [], ord := [], con := [((52, [.one]), zB0.con N)], loops := [], joins := [] }
theorem zB4.cons (N : Nat) : ConsOk Tryd.prog (zB4.cfg N).con := (consOk_cons (hb52) (zB0.ok N) (zB0.det N) consOk_nil)
theorem zB4.ls (N : Nat) : LoopsOk Tryd.prog (zB4.cfg N) (fnBody Tryd.f53) := loopsL (l := []) (by kernel_rfl) trivial
theorem zB4.b (N : Nat) (x0 : den (.int .i64)) : body (zB4.cfg N) N Tryd.f53 [.one] [.v] [(false, .imm)] [⟨(.int .i64), .imm, x0⟩] (fun r i => some (r, i)) = bindO (zB4 N x0) fun r => some ([⟨(.int .i64), .imm, r⟩], []) := by
  show _ = bindF _ _
  conv => rhs; simp only [zB4, bindF_ifB, bindF_bindO, bindF_pure, bindF_none, bindF_onSum]
  kernel_rfl
theorem zB4.ok (N : Nat) : ConOk Tryd.prog 53 [.one] (zB4.con N) := ok1 (g := zB4.cfg N) (N := N) (res := [(false, .imm)]) tys_ok (zB4.cons N) mixed Tryd.func53 (zB4.ls N) rfl (zB4.b N)
theorem zB4.det (N : Nat) : ConDet (zB4.con N) := det1
def zAG.sk4 : Skel := ⟨dd 1 (.ptr 50 [] :: (dd 1 (.pv (.int .i64) :: (dd 46 [])))), [⟨50, s41, .imm, true, false⟩]⟩
def zAG.xs4 : List XS := [⟨.exit 0, [], ⟨dd 50 [], []⟩⟩, ⟨.ret, [2], ⟨dd 2 (.pv .bool :: (dd 47 [])), []⟩⟩]
def zAG.con (N : Nat) : Con := { modes := [.v], ptrs := [false], fn := fn1 s41 .imm (zAG N) (fun r => [⟨.bool, .imm, r⟩]) (fun r => []) }
def zAG.cfg (N : Nat) : Cfg := { ty := tys, keep := [32, 38], flt := [], elm := elm0, live := [(4, [1, 3])], ord := [], con := [((52, [.one]), zB0.con N), ((53, [.one]), zB4.con N)], loops := [(4, loopCon N zAG.sk4 zAG.xs4 (fun {R} => zAG.l4 (R := R) N))], joins := [] }
theorem zAG.cons (N : Nat) : ConsOk Tryd.prog (zAG.cfg N).con := (consOk_cons (hb52) (zB0.ok N) (zB0.det N) (consOk_cons (hb53) (zB4.ok N) (zB4.det N) consOk_nil))
theorem zAG.h4 {R : Type} (N : Nat) (d : zAG.sk4.D) (kn : zAG.sk4.D → Option R) (kx : XD zAG.xs4 → Option R) : roundK (zAG.cfg N) N (nthLoop (fnBody Tryd.f36) 0) zAG.sk4 zAG.xs4 d kn kx = zAG.l4 N d kn kx := by kernel_rfl
theorem zAG.i4 (N : Nat) : LoopsOk Tryd.prog (zAG.cfg N) (nthLoop (fnBody Tryd.f36) 0) := loopsL (l := []) (by kernel_rfl) trivial
theorem zAG.o4 (N : Nat) : LoopOk Tryd.prog (nthLoop (fnBody Tryd.f36) 0) (loopCon N zAG.sk4 zAG.xs4 (fun {R} => zAG.l4 (R := R) N)) := loop_ok (g := zAG.cfg N) tys_ok (zAG.cons N) mixed (zAG.i4 N) (fun d kn kx => zAG.h4 N d kn kx)
theorem zAG.ls (N : Nat) : LoopsOk Tryd.prog (zAG.cfg N) (fnBody Tryd.f36) := loopsL (l := [nthLoop (fnBody Tryd.f36) 0]) (by kernel_rfl) ⟨loopOne (L0 := loopCon N zAG.sk4 zAG.xs4 (fun {R} => zAG.l4 (R := R) N)) (id := 4) (by kernel_rfl) (by kernel_rfl) (zAG.o4 N), trivial⟩
theorem zAG.q4 {R R' : Type} {N n : Nat} {d} {k} {g : R → Option R'} : bindF (loopP (zAG.l4 N) n d k) g = loopP (zAG.l4 N) n d fun e => bindF (k e) g := bindF_loopP (fun d kn kx => by simp only [zAG.l4, bindF_ifB, bindF_bindO, bindF_pure, bindF_none, bindF_onSum]) n d k
theorem zAG.b (N : Nat) (x0 : den s41) : body (zAG.cfg N) N Tryd.f36 [.one] [.v] [(false, .imm)] [⟨s41, .imm, x0⟩] (fun r i => some (r, i)) = bindO (zAG N x0) fun r => some ([⟨.bool, .imm, r⟩], []) := by
  show _ = bindF _ _
  conv => rhs; simp only [zAG, bindF_ifB, bindF_bindO, bindF_pure, bindF_none, bindF_onSum, zAG.q4]
  kernel_rfl
theorem zAG.ok (N : Nat) : ConOk Tryd.prog 36 [.one] (zAG.con N) := ok1 (g := zAG.cfg N) (N := N) (res := [(false, .imm)]) tys_ok (zAG.cons N) mixed Tryd.func36 (zAG.ls N) rfl (zAG.b N)
theorem zAG.det (N : Nat) : ConDet (zAG.con N) := det1
end Go.AE.F
end
