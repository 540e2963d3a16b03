/- The printed functions are what the program comes to: contracts. -/
import Derived.Test.YtjidbkkiehifaaaGreatLViL0
noncomputable section
namespace Go.AE.F
open Go.AE Go.Proofs
set_option maxRecDepth 100000
def zAH.sk4 : Skel := ⟨.pv s23 :: (dd 2 (.pv (.int .i64) :: (dd 15 []))), []⟩
def zAH.xs4 : List XS := [⟨.exit 0, [], ⟨dd 19 [], []⟩⟩, ⟨.ret, [2], ⟨dd 2 (.pv .bool :: (dd 16 [])), []⟩⟩]
def zAH.con (N : Nat) : Con := { modes := [.v], ptrs := [false], fn := fn1 s23 .imm (zAH N) (fun r => [⟨.bool, .imm, r⟩]) (fun r => []) }
def zAH.cfg (N : Nat) : Cfg := { ty := tys, keep := [17], flt := [], elm := elm0, live := [(4, [0, 3])], ord := [], con := [((63, [.one]), zC2.con N)], loops := [(4, loopCon N zAH.sk4 zAH.xs4 (fun {R} => zAH.l4 (R := R) N))], joins := [] }
theorem zAH.cons (N : Nat) : ConsOk Tryz.prog (zAH.cfg N).con := (consOk_cons (hb63) (zC2.ok N) (zC2.det N) consOk_nil)
theorem zAH.h4 {R : Type} (N : Nat) (d : zAH.sk4.D) (kn : zAH.sk4.D → Option R) (kx : XD zAH.xs4 → Option R) : roundK (zAH.cfg N) N (nthLoop (fnBody Tryz.f37) 0) zAH.sk4 zAH.xs4 d kn kx = zAH.l4 N d kn kx := by kernel_rfl
theorem zAH.i4 (N : Nat) : LoopsOk Tryz.prog (zAH.cfg N) (nthLoop (fnBody Tryz.f37) 0) := loopsL (l := []) (by kernel_rfl) trivial
theorem zAH.o4 (N : Nat) : LoopOk Tryz.prog (nthLoop (fnBody Tryz.f37) 0) (loopCon N zAH.sk4 zAH.xs4 (fun {R} => zAH.l4 (R := R) N)) := loop_ok (g := zAH.cfg N) tys_ok (zAH.cons N) mixed (zAH.i4 N) (fun d kn kx => zAH.h4 N d kn kx)
theorem zAH.ls (N : Nat) : LoopsOk Tryz.prog (zAH.cfg N) (fnBody Tryz.f37) := loopsL (l := [nthLoop (fnBody Tryz.f37) 0]) (by kernel_rfl) ⟨loopOne (L0 := loopCon N zAH.sk4 zAH.xs4 (fun {R} => zAH.l4 (R := R) N)) (id := 4) (by kernel_rfl) (by kernel_rfl) (zAH.o4 N), trivial⟩
theorem zAH.q4 {R R' : Type} {N n : Nat} {d} {k} {g : R → Option R'} : bindF (loopP (zAH.l4 N) n d k) g = loopP (zAH.l4 N) n d fun e => bindF (k e) g := bindF_loopP (fun d kn kx => by simp only [zAH.l4, bindF_ifB, bindF_bindO, bindF_pure, bindF_none, bindF_onSum]) n d k
theorem zAH.b (N : Nat) (x0 : den s23) : body (zAH.cfg N) N Tryz.f37 [.one] [.v] [(false, .imm)] [⟨s23, .imm, x0⟩] (fun r i => some (r, i)) = bindO (zAH N x0) fun r => some ([⟨.bool, .imm, r⟩], []) := by
  show _ = bindF _ _
  conv => rhs; simp only [zAH, bindF_ifB, bindF_bindO, bindF_pure, bindF_none, bindF_onSum, zAH.q4]
  kernel_rfl
theorem zAH.ok (N : Nat) : ConOk Tryz.prog 37 [.one] (zAH.con N) := ok1 (g := zAH.cfg N) (N := N) (res := [(false, .imm)]) tys_ok (zAH.cons N) mixed Tryz.func37 (zAH.ls N) rfl (zAH.b N)
theorem zAH.det (N : Nat) : ConDet (zAH.con N) := det1
def zB9.con (N : Nat) : Con := { modes := [.v], ptrs := [false], fn := fn1 s24 .imm (zB9 N) (fun r => [⟨.bool, .imm, r⟩]) (fun r => []) }
def zB9.cfg (N : Nat) : Cfg := { ty := tys, keep := [9], flt := [], elm := elm0, live := [], ord := [], con := [((37, [.one]), zAH.con N)], loops := [], joins := [] }
theorem zB9.cons (N : Nat) : ConsOk Tryz.prog (zB9.cfg N).con := (consOk_cons (hb37) (zAH.ok N) (zAH.det N) consOk_nil)
theorem zB9.ls (N : Nat) : LoopsOk Tryz.prog (zB9.cfg N) (fnBody Tryz.f17) := loopsL (l := []) (by kernel_rfl) trivial
theorem zB9.b (N : Nat) (x0 : den s24) : body (zB9.cfg N) N Tryz.f17 [.one] [.v] [(false, .imm)] [⟨s24, .imm, x0⟩] (fun r i => some (r, i)) = bindO (zB9 N x0) fun r => some ([⟨.bool, .imm, r⟩], []) := by
  show _ = bindF _ _
  conv => rhs; simp only [zB9, bindF_ifB, bindF_bindO, bindF_pure, bindF_none, bindF_onSum]
  kernel_rfl
theorem zB9.ok (N : Nat) : ConOk Tryz.prog 17 [.one] (zB9.con N) := ok1 (g := zB9.cfg N) (N := N) (res := [(false, .imm)]) tys_ok (zB9.cons N) mixed Tryz.func17 (zB9.ls N) rfl (zB9.b N)
theorem zB9.det (N : Nat) : ConDet (zB9.con N) := det1
def zAW.sk4 : Skel := ⟨.pv s26 :: (dd 4 (.pv (.int .i64) :: (dd 24 []))), []⟩
def zAW.xs4 : List XS := [⟨.exit 0, [], ⟨dd 30 [], []⟩⟩, ⟨.ret, [4], ⟨dd 4 (.pv .bool :: (dd 25 [])), []⟩⟩]
def zAW.con (N : Nat) : Con := { modes := [.v, .v], ptrs := [false], fn := fn2 s26 .imm (.int .i64) .imm (zAW N) (fun r => [⟨.bool, .imm, r⟩]) (fun r => []) }
def zAW.cfg (N : Nat) : Cfg := { ty := tys, keep := [27], flt := [], elm := elm0, live := [(4, [0, 5, 23, 24, 25, 26, 27, 28])], ord := [], con := [((37, [.one]), zAH.con N)], loops := [(4, loopCon N zAW.sk4 zAW.xs4 (fun {R} => zAW.l4 (R := R) N))], joins := [] }
theorem zAW.cons (N : Nat) : ConsOk Tryz.prog (zAW.cfg N).con := (consOk_cons (hb37) (zAH.ok N) (zAH.det N) consOk_nil)
theorem zAW.h4 {R : Type} (N : Nat) (d : zAW.sk4.D) (kn : zAW.sk4.D → Option R) (kx : XD zAW.xs4 → Option R) : roundK (zAW.cfg N) N (nthLoop (fnBody Tryz.f38) 0) zAW.sk4 zAW.xs4 d kn kx = zAW.l4 N d kn kx := by kernel_rfl
theorem zAW.i4 (N : Nat) : LoopsOk Tryz.prog (zAW.cfg N) (nthLoop (fnBody Tryz.f38) 0) := loopsL (l := []) (by kernel_rfl) trivial
theorem zAW.o4 (N : Nat) : LoopOk Tryz.prog (nthLoop (fnBody Tryz.f38) 0) (loopCon N zAW.sk4 zAW.xs4 (fun {R} => zAW.l4 (R := R) N)) := loop_ok (g := zAW.cfg N) tys_ok (zAW.cons N) mixed (zAW.i4 N) (fun d kn kx => zAW.h4 N d kn kx)
theorem zAW.ls (N : Nat) : LoopsOk Tryz.prog (zAW.cfg N) (fnBody Tryz.f38) := loopsL (l := [nthLoop (fnBody Tryz.f38) 0]) (by kernel_rfl) ⟨loopOne (L0 := loopCon N zAW.sk4 zAW.xs4 (fun {R} => zAW.l4 (R := R) N)) (id := 4) (by kernel_rfl) (by kernel_rfl) (zAW.o4 N), trivial⟩
theorem zAW.q4 {R R' : Type} {N n : Nat} {d} {k} {g : R → Option R'} : bindF (loopP (zAW.l4 N) n d k) g = loopP (zAW.l4 N) n d fun e => bindF (k e) g := bindF_loopP (fun d kn kx => by simp only [zAW.l4, bindF_ifB, bindF_bindO, bindF_pure, bindF_none, bindF_onSum]) n d k
theorem zAW.b (N : Nat) (x0 : den s26) (x1 : den (.int .i64)) : body (zAW.cfg N) N Tryz.f38 [.one, .one] [.v, .v] [(false, .imm)] [⟨s26, .imm, x0⟩, ⟨(.int .i64), .imm, x1⟩] (fun r i => some (r, i)) = bindO (zAW N x0 x1) fun r => some ([⟨.bool, .imm, r⟩], []) := by
  show _ = bindF _ _
  conv => rhs; simp only [zAW, bindF_ifB, bindF_bindO, bindF_pure, bindF_none, bindF_onSum, zAW.q4]
  kernel_rfl
theorem zAW.ok (N : Nat) : ConOk Tryz.prog 38 [.one, .one] (zAW.con N) := ok2 (g := zAW.cfg N) (N := N) (res := [(false, .imm)]) tys_ok (zAW.cons N) mixed Tryz.func38 (zAW.ls N) rfl (zAW.b N)
theorem zAW.det (N : Nat) : ConDet (zAW.con N) := det2
def zBF.con (N : Nat) : Con := { modes := [.v], ptrs := [false], fn := fn1 s27 .imm (zBF N) (fun r => [⟨.bool, .imm, r⟩]) (fun r => []) }
def zBF.cfg (N : Nat) : Cfg := { ty := tys, keep := [5], flt := [], elm := elm0, live := [], ord := [], con := [((38, [.one, .one]), zAW.con N)], loops := [], joins := [] }
theorem zBF.cons (N : Nat) : ConsOk Tryz.prog (zBF.cfg N).con := (consOk_cons (hb38) (zAW.ok N) (zAW.det N) consOk_nil)
theorem zBF.ls (N : Nat) : LoopsOk Tryz.prog (zBF.cfg N) (fnBody Tryz.f18) := loopsL (l := []) (by kernel_rfl) trivial
theorem zBF.b (N : Nat) (x0 : den s27) : body (zBF.cfg N) N Tryz.f18 [.one] [.v] [(false, .imm)] [⟨s27, .imm, x0⟩] (fun r i => some (r, i)) = bindO (zBF N x0) fun r => some ([⟨.bool, .imm, r⟩], []) := by
  show _ = bindF _ _
  conv => rhs; simp only [zBF, bindF_ifB, bindF_bindO, bindF_pure, bindF_none, bindF_onSum]
  kernel_rfl
theorem zBF.ok (N : Nat) : ConOk Tryz.prog 18 [.one] (zBF.con N) := ok1 (g := zBF.cfg N) (N := N) (res := [(false, .imm)]) tys_ok (zBF.cons N) mixed Tryz.func18 (zBF.ls N) rfl (zBF.b N)
theorem zBF.det (N : Nat) : ConDet (zBF.con N) := det1
def zBI.con (N : Nat) : Con := { modes := [.v], ptrs := [false], fn := fn1 s23 .imm (zBI N) (fun r => [⟨s23, (.own .imm), r⟩]) (fun r => []) }
def zBI.cfg (N : Nat) : Cfg := { ty := tys, keep := [], flt := [], elm := elm0, live := [], ord := [], con := [], loops := [], joins := [] }
theorem zBI.cons (N : Nat) : ConsOk Tryz.prog (zBI.cfg N).con := consOk_nil
theorem zBI.ls (N : Nat) : LoopsOk Tryz.prog (zBI.cfg N) (fnBody Tryz.f64) := loopsL (l := []) (by kernel_rfl) trivial
theorem zBI.b (N : Nat) (x0 : den s23) : body (zBI.cfg N) N Tryz.f64 [.one] [.v] [(false, (.own .imm))] [⟨s23, .imm, x0⟩] (fun r i => some (r, i)) = bindO (zBI N x0) fun r => some ([⟨s23, (.own .imm), r⟩], []) := by
  show _ = bindF _ _
  conv => rhs; simp only [zBI, bindF_ifB, bindF_bindO, bindF_pure, bindF_none, bindF_onSum]
  kernel_rfl
theorem zBI.ok (N : Nat) : ConOk Tryz.prog 64 [.one] (zBI.con N) := ok1 (g := zBI.cfg N) (N := N) (res := [(false, (.own .imm))]) tys_ok (zBI.cons N) mixed Tryz.func64 (zBI.ls N) rfl (zBI.b N)
theorem zBI.det (N : Nat) : ConDet (zBI.con N) := det1
def zBV.con (N : Nat) : Con := { modes := [.v], ptrs := [false], fn := fn1 s24 .imm (zBV N) (fun r => [⟨s24, (.pr (.own .imm) .imm), r⟩]) (fun r => []) }
def zBV.cfg (N : Nat) : Cfg := { ty := tys, keep := [5], flt := [], elm := elm0, live := [], ord := [], con := [((64, [.one]), zBI.con N)], loops := [], joins := [] }
theorem zBV.cons (N : Nat) : ConsOk Tryz.prog (zBV.cfg N).con := (consOk_cons (hb64) (zBI.ok N) (zBI.det N) consOk_nil)
theorem zBV.ls (N : Nat) : LoopsOk Tryz.prog (zBV.cfg N) (fnBody Tryz.f39) := loopsL (l := []) (by kernel_rfl) trivial
theorem zBV.b (N : Nat) (x0 : den s24) : body (zBV.cfg N) N Tryz.f39 [.one] [.v] [(false, (.pr (.own .imm) .imm))] [⟨s24, .imm, x0⟩] (fun r i => some (r, i)) = bindO (zBV N x0) fun r => some ([⟨s24, (.pr (.own .imm) .imm), r⟩], []) := by
  show _ = bindF _ _
  conv => rhs; simp only [zBV, bindF_ifB, bindF_bindO, bindF_pure, bindF_none, bindF_onSum]
  kernel_rfl
theorem zBV.ok (N : Nat) : ConOk Tryz.prog 39 [.one] (zBV.con N) := ok1 (g := zBV.cfg N) (N := N) (res := [(false, (.pr (.own .imm) .imm))]) tys_ok (zBV.cons N) mixed Tryz.func39 (zBV.ls N) rfl (zBV.b N)
theorem zBV.det (N : Nat) : ConDet (zBV.con N) := det1
def zAL.sk3 : Skel := ⟨.pv s26 :: (dd 2 (.ov 50 [] :: (.pv (.int .i64) :: (dd 16 [])))), [⟨50, s26, (.own (.own .imm)), false, false⟩]⟩
def zAL.xs3 : List XS := [⟨.exit 0, [3], ⟨dd 3 (.ov 50 [] :: (dd 17 [])), [⟨50, s26, (.own (.own .imm)), false, false⟩]⟩⟩]
def zAL.con (N : Nat) : Con := { modes := [.v], ptrs := [false], fn := fn1 s26 .imm (zAL N) (fun r => [⟨s26, (.own (.own .imm)), r⟩]) (fun r => []) }
def zAL.cfg (N : Nat) : Cfg := { ty := tys, keep := [17], flt := [], elm := elm0, live := [(3, [0, 3, 4])], ord := [], con := [((64, [.one]), zBI.con N)], loops := [(3, loopCon N zAL.sk3 zAL.xs3 (fun {R} => zAL.l3 (R := R) N))], joins := [] }
theorem zAL.cons (N : Nat) : ConsOk Tryz.prog (zAL.cfg N).con := (consOk_cons (hb64) (zBI.ok N) (zBI.det N) consOk_nil)
theorem zAL.h3 {R : Type} (N : Nat) (d : zAL.sk3.D) (kn : zAL.sk3.D → Option R) (kx : XD zAL.xs3 → Option R) : roundK (zAL.cfg N) N (nthLoop (fnBody Tryz.f65) 0) zAL.sk3 zAL.xs3 d kn kx = zAL.l3 N d kn kx := by kernel_rfl
theorem zAL.i3 (N : Nat) : LoopsOk Tryz.prog (zAL.cfg N) (nthLoop (fnBody Tryz.f65) 0) := loopsL (l := []) (by kernel_rfl) trivial
theorem zAL.o3 (N : Nat) : LoopOk Tryz.prog (nthLoop (fnBody Tryz.f65) 0) (loopCon N zAL.sk3 zAL.xs3 (fun {R} => zAL.l3 (R := R) N)) := loop_ok (g := zAL.cfg N) tys_ok (zAL.cons N) mixed (zAL.i3 N) (fun d kn kx => zAL.h3 N d kn kx)
theorem zAL.ls (N : Nat) : LoopsOk Tryz.prog (zAL.cfg N) (fnBody Tryz.f65) := loopsL (l := [nthLoop (fnBody Tryz.f65) 0]) (by kernel_rfl) ⟨loopOne (L0 := loopCon N zAL.sk3 zAL.xs3 (fun {R} => zAL.l3 (R := R) N)) (id := 3) (by kernel_rfl) (by kernel_rfl) (zAL.o3 N), trivial⟩
theorem zAL.q3 {R R' : Type} {N n : Nat} {d} {k} {g : R → Option R'} : bindF (loopP (zAL.l3 N) n d k) g = loopP (zAL.l3 N) n d fun e => bindF (k e) g := bindF_loopP (fun d kn kx => by simp only [zAL.l3, bindF_ifB, bindF_bindO, bindF_pure, bindF_none, bindF_onSum]) n d k
theorem zAL.b (N : Nat) (x0 : den s26) : body (zAL.cfg N) N Tryz.f65 [.one] [.v] [(false, (.own (.own .imm)))] [⟨s26, .imm, x0⟩] (fun r i => some (r, i)) = bindO (zAL N x0) fun r => some ([⟨s26, (.own (.own .imm)), r⟩], []) := by
  show _ = bindF _ _
  conv => rhs; simp only [zAL, bindF_ifB, bindF_bindO, bindF_pure, bindF_none, bindF_onSum, zAL.q3]
  kernel_rfl
theorem zAL.ok (N : Nat) : ConOk Tryz.prog 65 [.one] (zAL.con N) := ok1 (g := zAL.cfg N) (N := N) (res := [(false, (.own (.own .imm)))]) tys_ok (zAL.cons N) mixed Tryz.func65 (zAL.ls N) rfl (zAL.b N)
theorem zAL.det (N : Nat) : ConDet (zAL.con N) := det1
def zBL.con (N : Nat) : Con := { modes := [.v], ptrs := [false], fn := fn1 s27 .imm (zBL N) (fun r => [⟨s27, (.pr (.own (.own .imm)) .imm), r⟩]) (fun r => []) }
def zBL.cfg (N : Nat) : Cfg := { ty := tys, keep := [5], flt := [], elm := elm0, live := [], ord := [(1, [0, 1, 3, 4, 2, 5, 6])], con := [((65, [.one]), zAL.con N)], loops := [], joins := [] }
theorem zBL.cons (N : Nat) : ConsOk Tryz.prog (zBL.cfg N).con := (consOk_cons (hb65) (zAL.ok N) (zAL.det N) consOk_nil)
theorem zBL.ls (N : Nat) : LoopsOk Tryz.prog (zBL.cfg N) (fnBody Tryz.f40) := loopsL (l := []) (by kernel_rfl) trivial
theorem zBL.b (N : Nat) (x0 : den s27) : body (zBL.cfg N) N Tryz.f40 [.one] [.v] [(false, (.pr (.own (.own .imm)) .imm))] [⟨s27, .imm, x0⟩] (fun r i => some (r, i)) = bindO (zBL N x0) fun r => some ([⟨s27, (.pr (.own (.own .imm)) .imm), r⟩], []) := by
  show _ = bindF _ _
  conv => rhs; simp only [zBL, bindF_ifB, bindF_bindO, bindF_pure, bindF_none, bindF_onSum]
  kernel_rfl
theorem zBL.ok (N : Nat) : ConOk Tryz.prog 40 [.one] (zBL.con N) := ok1 (g := zBL.cfg N) (N := N) (res := [(false, (.pr (.own (.own .imm)) .imm))]) tys_ok (zBL.cons N) mixed Tryz.func40 (zBL.ls N) rfl (zBL.b N)
theorem zBL.det (N : Nat) : ConDet (zBL.con N) := det1
def zBY.con (N : Nat) : Con := { modes := [.v, .v], ptrs := [false], fn := fn2 (.int .i64) .imm (.int .i64) .imm (zBY N) (fun r => [⟨(.int .i64), .imm, r⟩]) (fun r => []) }
def zBY.cfg (N : Nat) : Cfg := { ty := tys, keep := [], flt := [], elm := elm0, live := [], ord := [], con := [], loops := [], joins := [] }
theorem zBY.cons (N : Nat) : ConsOk Tryz.prog (zBY.cfg N).con := consOk_nil
theorem zBY.ls (N : Nat) : LoopsOk Tryz.prog (zBY.cfg N) (fnBody Tryz.f66) := loopsL (l := []) (by kernel_rfl) trivial
theorem zBY.b (N : Nat) (x0 : den (.int .i64)) (x1 : den (.int .i64)) : body (zBY.cfg N) N Tryz.f66 [.one, .one] [.v, .v] [(false, .imm)] [⟨(.int .i64), .imm, x0⟩, ⟨(.int .i64), .imm, x1⟩] (fun r i => some (r, i)) = bindO (zBY N x0 x1) fun r => some ([⟨(.int .i64), .imm, r⟩], []) := by
  show _ = bindF _ _
  conv => rhs; simp only [zBY, bindF_ifB, bindF_bindO, bindF_pure, bindF_none, bindF_onSum]
  kernel_rfl
theorem zBY.ok (N : Nat) : ConOk Tryz.prog 66 [.one, .one] (zBY.con N) := ok2 (g := zBY.cfg N) (N := N) (res := [(false, .imm)]) tys_ok (zBY.cons N) mixed Tryz.func66 (zBY.ls N) rfl (zBY.b N)
theorem zBY.det (N : Nat) : ConDet (zBY.con N) := det2
def zAY.sk3 : Skel := ⟨.pv (.int .i64) :: (dd 2 (.ov 50 [] :: (.pv (.int .i64) :: (dd 15 [])))), [⟨50, s23, (.own .imm), false, false⟩]⟩
def zAY.xs3 : List XS := [⟨.exit 0, [], ⟨dd 20 [], []⟩⟩, ⟨.ret, [2], ⟨dd 2 (.pv (.int .i64) :: (dd 17 [])), []⟩⟩]
def zAY.con (N : Nat) : Con := { modes := [.v], ptrs := [false], fn := fn1 (.int .i64) .imm (zAY N) (fun r => [⟨(.int .i64), .imm, r⟩]) (fun r => []) }
def zAY.cfg (N : Nat) : Cfg := { ty := tys, keep := [], flt := [], elm := elm0, live := [(3, [0, 3, 4])], ord := [], con := [], loops := [(3, loopCon N zAY.sk3 zAY.xs3 (fun {R} => zAY.l3 (R := R) N))], joins := [] }
theorem zAY.cons (N : Nat) : ConsOk Tryz.prog (zAY.cfg N).con := consOk_nil
theorem zAY.h3 {R : Type} (N : Nat) (d : zAY.sk3.D) (kn : zAY.sk3.D → Option R) (kx : XD zAY.xs3 → Option R) : roundK (zAY.cfg N) N (nthLoop (fnBody Tryz.f83) 0) zAY.sk3 zAY.xs3 d kn kx = zAY.l3 N d kn kx := by kernel_rfl
theorem zAY.i3 (N : Nat) : LoopsOk Tryz.prog (zAY.cfg N) (nthLoop (fnBody Tryz.f83) 0) := loopsL (l := []) (by kernel_rfl) trivial
theorem zAY.o3 (N : Nat) : LoopOk Tryz.prog (nthLoop (fnBody Tryz.f83) 0) (loopCon N zAY.sk3 zAY.xs3 (fun {R} => zAY.l3 (R := R) N)) := loop_ok (g := zAY.cfg N) tys_ok (zAY.cons N) mixed (zAY.i3 N) (fun d kn kx => zAY.h3 N d kn kx)
theorem zAY.ls (N : Nat) : LoopsOk Tryz.prog (zAY.cfg N) (fnBody Tryz.f83) := loopsL (l := [nthLoop (fnBody Tryz.f83) 0]) (by kernel_rfl) ⟨loopOne (L0 := loopCon N zAY.sk3 zAY.xs3 (fun {R} => zAY.l3 (R := R) N)) (id := 3) (by kernel_rfl) (by kernel_rfl) (zAY.o3 N), trivial⟩
theorem zAY.q3 {R R' : Type} {N n : Nat} {d} {k} {g : R → Option R'} : bindF (loopP (zAY.l3 N) n d k) g = loopP (zAY.l3 N) n d fun e => bindF (k e) g := bindF_loopP (fun d kn kx => by simp only [zAY.l3, bindF_ifB, bindF_bindO, bindF_pure, bindF_none, bindF_onSum]) n d k
theorem zAY.b (N : Nat) (x0 : den (.int .i64)) : body (zAY.cfg N) N Tryz.f83 [.one] [.v] [(false, .imm)] [⟨(.int .i64), .imm, x0⟩] (fun r i => some (r, i)) = bindO (zAY N x0) fun r => some ([⟨(.int .i64), .imm, r⟩], []) := by
  show _ = bindF _ _
  conv => rhs; simp only [zAY, bindF_ifB, bindF_bindO, bindF_pure, bindF_none, bindF_onSum, zAY.q3]
  kernel_rfl
theorem zAY.ok (N : Nat) : ConOk Tryz.prog 83 [.one] (zAY.con N) := ok1 (g := zAY.cfg N) (N := N) (res := [(false, .imm)]) tys_ok (zAY.cons N) mixed Tryz.func83 (zAY.ls N) rfl (zAY.b N)
theorem zAY.det (N : Nat) : ConDet (zAY.con N) := det1
def zAK.sk1 : Skel := ⟨dd 1 (.pv (.int .i64) :: (.ptr 50 [] :: (dd 16 []))), [⟨50, s24, .imm, true, false⟩]⟩
def zAK.xs1 : List XS := [⟨.exit 0, [1], ⟨dd 1 (.pv (.int .i64) :: (dd 17 [])), []⟩⟩]
def zAK.con (N : Nat) : Con := { modes := [.v, .v], ptrs := [false], fn := fn2 s24 .imm (.int .i64) .imm (zAK N) (fun r => [⟨(.int .i64), .imm, r⟩]) (fun r => []) }
def zAK.cfg (N : Nat) : Cfg := { ty := tys, keep := [], flt := [], elm := elm0, live := [(1, [1, 2, 8, 9, 10, 11, 12, 13, 14])], ord := [], con := [], loops := [(1, loopCon N zAK.sk1 zAK.xs1 (fun {R} => zAK.l1 (R := R) N))], joins := [] }
theorem zAK.cons (N : Nat) : ConsOk Tryz.prog (zAK.cfg N).con := consOk_nil
theorem zAK.h1 {R : Type} (N : Nat) (d : zAK.sk1.D) (kn : zAK.sk1.D → Option R) (kx : XD zAK.xs1 → Option R) : roundK (zAK.cfg N) N (nthLoop (fnBody Tryz.f73) 0) zAK.sk1 zAK.xs1 d kn kx = zAK.l1 N d kn kx := by kernel_rfl
theorem zAK.i1 (N : Nat) : LoopsOk Tryz.prog (zAK.cfg N) (nthLoop (fnBody Tryz.f73) 0) := loopsL (l := []) (by kernel_rfl) trivial
theorem zAK.o1 (N : Nat) : LoopOk Tryz.prog (nthLoop (fnBody Tryz.f73) 0) (loopCon N zAK.sk1 zAK.xs1 (fun {R} => zAK.l1 (R := R) N)) := loop_ok (g := zAK.cfg N) tys_ok (zAK.cons N) mixed (zAK.i1 N) (fun d kn kx => zAK.h1 N d kn kx)
theorem zAK.ls (N : Nat) : LoopsOk Tryz.prog (zAK.cfg N) (fnBody Tryz.f73) := loopsL (l := [nthLoop (fnBody Tryz.f73) 0]) (by kernel_rfl) ⟨loopOne (L0 := loopCon N zAK.sk1 zAK.xs1 (fun {R} => zAK.l1 (R := R) N)) (id := 1) (by kernel_rfl) (by kernel_rfl) (zAK.o1 N), trivial⟩
theorem zAK.q1 {R R' : Type} {N n : Nat} {d} {k} {g : R → Option R'} : bindF (loopP (zAK.l1 N) n d k) g = loopP (zAK.l1 N) n d fun e => bindF (k e) g := bindF_loopP (fun d kn kx => by simp only [zAK.l1, bindF_ifB, bindF_bindO, bindF_pure, bindF_none, bindF_onSum]) n d k
theorem zAK.b (N : Nat) (x0 : den s24) (x1 : den (.int .i64)) : body (zAK.cfg N) N Tryz.f73 [.one, .one] [.v, .v] [(false, .imm)] [⟨s24, .imm, x0⟩, ⟨(.int .i64), .imm, x1⟩] (fun r i => some (r, i)) = bindO (zAK N x0 x1) fun r => some ([⟨(.int .i64), .imm, r⟩], []) := by
  show _ = bindF _ _
  conv => rhs; simp only [zAK, bindF_ifB, bindF_bindO, bindF_pure, bindF_none, bindF_onSum, zAK.q1]
  kernel_rfl
theorem zAK.ok (N : Nat) : ConOk Tryz.prog 73 [.one, .one] (zAK.con N) := ok2 (g := zAK.cfg N) (N := N) (res := [(false, .imm)]) tys_ok (zAK.cons N) mixed Tryz.func73 (zAK.ls N) rfl (zAK.b N)
theorem zAK.det (N : Nat) : ConDet (zAK.con N) := det2
def zAU.sk1 : Skel := ⟨dd 1 (.pv (.int .i64) :: (.ptr 50 [] :: (dd 18 []))), [⟨50, s24, .imm, true, false⟩]⟩
def zAU.xs1 : List XS := [⟨.exit 0, [1], ⟨dd 1 (.pv (.int .i64) :: (dd 19 [])), []⟩⟩]
def zAU.con (N : Nat) : Con := { modes := [.v, .v], ptrs := [false], fn := fn2 s24 .imm (.int .i64) .imm (zAU N) (fun r => [⟨(.int .i64), .imm, r⟩]) (fun r => []) }
def zAU.cfg (N : Nat) : Cfg := { ty := tys, keep := [], flt := [], elm := elm0, live := [(1, [1, 2, 11, 12, 13, 14, 15, 16])], ord := [], con := [], loops := [(1, loopCon N zAU.sk1 zAU.xs1 (fun {R} => zAU.l1 (R := R) N))], joins := [] }
theorem zAU.cons (N : Nat) : ConsOk Tryz.prog (zAU.cfg N).con := consOk_nil
theorem zAU.h1 {R : Type} (N : Nat) (d : zAU.sk1.D) (kn : zAU.sk1.D → Option R) (kx : XD zAU.xs1 → Option R) : roundK (zAU.cfg N) N (nthLoop (fnBody Tryz.f72) 0) zAU.sk1 zAU.xs1 d kn kx = zAU.l1 N d kn kx := by kernel_rfl
theorem zAU.i1 (N : Nat) : LoopsOk Tryz.prog (zAU.cfg N) (nthLoop (fnBody Tryz.f72) 0) := loopsL (l := []) (by kernel_rfl) trivial
theorem zAU.o1 (N : Nat) : LoopOk Tryz.prog (nthLoop (fnBody Tryz.f72) 0) (loopCon N zAU.sk1 zAU.xs1 (fun {R} => zAU.l1 (R := R) N)) := loop_ok (g := zAU.cfg N) tys_ok (zAU.cons N) mixed (zAU.i1 N) (fun d kn kx => zAU.h1 N d kn kx)
theorem zAU.ls (N : Nat) : LoopsOk Tryz.prog (zAU.cfg N) (fnBody Tryz.f72) := loopsL (l := [nthLoop (fnBody Tryz.f72) 0]) (by kernel_rfl) ⟨loopOne (L0 := loopCon N zAU.sk1 zAU.xs1 (fun {R} => zAU.l1 (R := R) N)) (id := 1) (by kernel_rfl) (by kernel_rfl) (zAU.o1 N), trivial⟩
theorem zAU.q1 {R R' : Type} {N n : Nat} {d} {k} {g : R → Option R'} : bindF (loopP (zAU.l1 N) n d k) g = loopP (zAU.l1 N) n d fun e => bindF (k e) g := bindF_loopP (fun d kn kx => by simp only [zAU.l1, bindF_ifB, bindF_bindO, bindF_pure, bindF_none, bindF_onSum]) n d k
theorem zAU.b (N : Nat) (x0 : den s24) (x1 : den (.int .i64)) : body (zAU.cfg N) N Tryz.f72 [.one, .one] [.v, .v] [(false, .imm)] [⟨s24, .imm, x0⟩, ⟨(.int .i64), .imm, x1⟩] (fun r i => some (r, i)) = bindO (zAU N x0 x1) fun r => some ([⟨(.int .i64), .imm, r⟩], []) := by
  show _ = bindF _ _
  conv => rhs; simp only [zAU, bindF_ifB, bindF_bindO, bindF_pure, bindF_none, bindF_onSum, zAU.q1]
  kernel_rfl
theorem zAU.ok (N : Nat) : ConOk Tryz.prog 72 [.one, .one] (zAU.con N) := ok2 (g := zAU.cfg N) (N := N) (res := [(false, .imm)]) tys_ok (zAU.cons N) mixed Tryz.func72 (zAU.ls N) rfl (zAU.b N)
theorem zAU.det (N : Nat) : ConDet (zAU.con N) := det2
end Go.AE.F
end
