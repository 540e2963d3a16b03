/- The printed functions are what the program comes to: contracts. -/
import Derived.Test.YtjidbkkiehifaaaGreatLViL5
noncomputable section
namespace Go.AE.F
open Go.AE Go.Proofs
set_option maxRecDepth 100000
def zBC.con (N : Nat) : Con := { modes := [.v, .v], ptrs := [false], fn := fn2 .str .imm (.int .u8) .imm (zBC N) (fun r => [⟨(.int .i64), .imm, r⟩]) (fun r => []) }
def zBC.cfg (N : Nat) : Cfg := { ty := tys, keep := [7], flt := [], elm := elm0, live := [], ord := [], con := [((76, [.one, .one]), zBT.con N)], loops := [], joins := [] }
theorem zBC.cons (N : Nat) : ConsOk Tryz.prog (zBC.cfg N).con := (consOk_cons (hb76) (zBT.ok N) (zBT.det N) consOk_nil)
theorem zBC.ls (N : Nat) : LoopsOk Tryz.prog (zBC.cfg N) (fnBody Tryz.f47) := loopsL (l := []) (by kernel_rfl) trivial
theorem zBC.b (N : Nat) (x0 : den .str) (x1 : den (.int .u8)) : body (zBC.cfg N) N Tryz.f47 [.one, .one] [.v, .v] [(false, .imm)] [⟨.str, .imm, x0⟩, ⟨(.int .u8), .imm, x1⟩] (fun r i => some (r, i)) = bindO (zBC N x0 x1) fun r => some ([⟨(.int .i64), .imm, r⟩], []) := by
  show _ = bindF _ _
  conv => rhs; simp only [zBC, bindF_ifB, bindF_bindO, bindF_pure, bindF_none, bindF_onSum]
  kernel_rfl
theorem zBC.ok (N : Nat) : ConOk Tryz.prog 47 [.one, .one] (zBC.con N) := ok2 (g := zBC.cfg N) (N := N) (res := [(false, .imm)]) tys_ok (zBC.cons N) mixed Tryz.func47 (zBC.ls N) rfl (zBC.b N)
theorem zBC.det (N : Nat) : ConDet (zBC.con N) := det2
def zCM.con (N : Nat) : Con := { modes := [.v], ptrs := [false], fn := fn1 (.int .i64) .imm (zCM N) (fun r => [⟨(.int .i64), .imm, r⟩]) (fun r => []) }
def zCM.cfg (N : Nat) : Cfg := { ty := tys, keep := [], flt := [], elm := elm0, live := [], ord := [], con := [], loops := [], joins := [] }
theorem zCM.cons (N : Nat) : ConsOk Tryz.prog (zCM.cfg N).con := consOk_nil
theorem zCM.ls (N : Nat) : LoopsOk Tryz.prog (zCM.cfg N) (fnBody Tryz.f48) := loopsL (l := []) (by kernel_rfl) trivial
theorem zCM.b (N : Nat) (x0 : den (.int .i64)) : body (zCM.cfg N) N Tryz.f48 [.one] [.v] [(false, .imm)] [⟨(.int .i64), .imm, x0⟩] (fun r i => some (r, i)) = bindO (zCM N x0) fun r => some ([⟨(.int .i64), .imm, r⟩], []) := by
  show _ = bindF _ _
  conv => rhs; simp only [zCM, bindF_ifB, bindF_bindO, bindF_pure, bindF_none, bindF_onSum]
  kernel_rfl
theorem zCM.ok (N : Nat) : ConOk Tryz.prog 48 [.one] (zCM.con N) := ok1 (g := zCM.cfg N) (N := N) (res := [(false, .imm)]) tys_ok (zCM.cons N) mixed Tryz.func48 (zCM.ls N) rfl (zCM.b N)
theorem zCM.det (N : Nat) : ConDet (zCM.con N) := det1
def zAI.sk2 : Skel := ⟨.pv .str :: (dd 1 (.ptr 50 [] :: (dd 1 (.ptr 51 [] :: (dd 108 []))))), [⟨50, s51, .imm, true, false⟩, ⟨51, s51, .imm, true, false⟩]⟩
def zAI.xs2 : List XS := [⟨.exit 0, [0, 2, 4, 78, 79, 80, 81, 106, 107, 108, 109], ⟨.pv .str :: (dd 1 (.ptr 50 [] :: (dd 1 (.ptr 51 [] :: (dd 108 []))))), [⟨50, s51, .imm, true, false⟩, ⟨51, s51, .imm, true, false⟩]⟩⟩]
def zAI.con (N : Nat) : Con := { modes := [.v], ptrs := [false, false], fn := fn1 .str .imm (zAI N) (fun r => [⟨s51, .imm, r.1⟩, ⟨(.int .i64), .imm, r.2⟩]) (fun r => []) }
def zAI.cfg (N : Nat) : Cfg := { ty := tys, keep := [21, 70, 75, 80, 108], flt := [], elm := elm0, live := [(2, [0, 2, 4, 12, 13, 14, 17, 18, 19, 20, 21, 24, 25, 26, 27, 28, 29, 30, 31, 32, 78, 79, 80, 81, 106, 107, 108, 109])], ord := [(5, [0, 1, 2, 3, 4, 5, 6, 7, 8, 9, 10, 11])], con := [((46, [.one]), zCQ.con N), ((47, [.one, .one]), zBC.con N), ((48, [.one]), zCM.con N)], loops := [(2, loopCon N zAI.sk2 zAI.xs2 (fun {R} => zAI.l2 (R := R) N))], joins := [] }
theorem zAI.cons (N : Nat) : ConsOk Tryz.prog (zAI.cfg N).con := (consOk_cons (hb46) (zCQ.ok N) (zCQ.det N) (consOk_cons (hb47) (zBC.ok N) (zBC.det N) (consOk_cons (hb48) (zCM.ok N) (zCM.det N) consOk_nil)))
theorem zAI.h2 {R : Type} (N : Nat) (d : zAI.sk2.D) (kn : zAI.sk2.D → Option R) (kx : XD zAI.xs2 → Option R) : roundK (zAI.cfg N) N (nthLoop (fnBody Tryz.f24) 0) zAI.sk2 zAI.xs2 d kn kx = zAI.l2 N d kn kx := by kernel_rfl
theorem zAI.i2 (N : Nat) : LoopsOk Tryz.prog (zAI.cfg N) (nthLoop (fnBody Tryz.f24) 0) := loopsL (l := []) (by kernel_rfl) trivial
theorem zAI.o2 (N : Nat) : LoopOk Tryz.prog (nthLoop (fnBody Tryz.f24) 0) (loopCon N zAI.sk2 zAI.xs2 (fun {R} => zAI.l2 (R := R) N)) := loop_ok (g := zAI.cfg N) tys_ok (zAI.cons N) mixed (zAI.i2 N) (fun d kn kx => zAI.h2 N d kn kx)
theorem zAI.ls (N : Nat) : LoopsOk Tryz.prog (zAI.cfg N) (fnBody Tryz.f24) := loopsL (l := [nthLoop (fnBody Tryz.f24) 0]) (by kernel_rfl) ⟨loopOne (L0 := loopCon N zAI.sk2 zAI.xs2 (fun {R} => zAI.l2 (R := R) N)) (id := 2) (by kernel_rfl) (by kernel_rfl) (zAI.o2 N), trivial⟩
theorem zAI.q2 {R R' : Type} {N n : Nat} {d} {k} {g : R → Option R'} : bindF (loopP (zAI.l2 N) n d k) g = loopP (zAI.l2 N) n d fun e => bindF (k e) g := bindF_loopP (fun d kn kx => by simp only [zAI.l2, bindF_ifB, bindF_bindO, bindF_pure, bindF_none, bindF_onSum]) n d k
theorem zAI.b (N : Nat) (x0 : den .str) : body (zAI.cfg N) N Tryz.f24 [.one] [.v] [(false, .imm), (false, .imm)] [⟨.str, .imm, x0⟩] (fun r i => some (r, i)) = bindO (zAI N x0) fun r => some ([⟨s51, .imm, r.1⟩, ⟨(.int .i64), .imm, r.2⟩], []) := by
  show _ = bindF _ _
  conv => rhs; simp only [zAI, bindF_ifB, bindF_bindO, bindF_pure, bindF_none, bindF_onSum, zAI.q2]
  kernel_rfl
theorem zAI.ok (N : Nat) : ConOk Tryz.prog 24 [.one] (zAI.con N) := ok1 (g := zAI.cfg N) (N := N) (res := [(false, .imm), (false, .imm)]) tys_ok (zAI.cons N) mixed Tryz.func24 (zAI.ls N) rfl (zAI.b N)
theorem zAI.det (N : Nat) : ConDet (zAI.con N) := det1
def zCP.con (N : Nat) : Con := { modes := [.v], ptrs := [false], fn := fn1 (.int .i64) .imm (zCP N) (fun r => [⟨(.int .i64), .imm, r⟩]) (fun r => []) }
def zCP.cfg (N : Nat) : Cfg := { ty := tys, keep := [5, 20, 23, 27], flt := [], elm := elm0, live := [], ord := [], con := [((58, [.one]), zCC.con N), ((31, [.one, .one, .one]), zBM.con N)], loops := [], joins := [] }
theorem zCP.cons (N : Nat) : ConsOk Tryz.prog (zCP.cfg N).con := (consOk_cons (hb58) (zCC.ok N) (zCC.det N) (consOk_cons (hb31) (zBM.ok N) (zBM.det N) consOk_nil))
theorem zCP.ls (N : Nat) : LoopsOk Tryz.prog (zCP.cfg N) (fnBody Tryz.f111) := loopsL (l := []) (by kernel_rfl) trivial
theorem zCP.b (N : Nat) (x0 : den (.int .i64)) : body (zCP.cfg N) N Tryz.f111 [.one] [.v] [(false, .imm)] [⟨(.int .i64), .imm, x0⟩] (fun r i => some (r, i)) = bindO (zCP N x0) fun r => some ([⟨(.int .i64), .imm, r⟩], []) := by
  show _ = bindF _ _
  conv => rhs; simp only [zCP, bindF_ifB, bindF_bindO, bindF_pure, bindF_none, bindF_onSum]
  kernel_rfl
theorem zCP.ok (N : Nat) : ConOk Tryz.prog 111 [.one] (zCP.con N) := ok1 (g := zCP.cfg N) (N := N) (res := [(false, .imm)]) tys_ok (zCP.cons N) mixed Tryz.func111 (zCP.ls N) rfl (zCP.b N)
theorem zCP.det (N : Nat) : ConDet (zCP.con N) := det1
def zBN.con (N : Nat) : Con := { modes := [.rd, .v], ptrs := [false], fn := fn2 s24 .imm (.int .i64) .imm (zBN N) (fun r => [⟨.bool, .imm, r⟩]) (fun r => []) }
def zBN.cfg (N : Nat) : Cfg := { ty := tys, keep := [12], flt := [], elm := elm0, live := [], ord := [], con := [((111, [.one]), zCP.con N)], loops := [], joins := [] }
theorem zBN.cons (N : Nat) : ConsOk Tryz.prog (zBN.cfg N).con := (consOk_cons (hb111) (zCP.ok N) (zCP.det N) consOk_nil)
theorem zBN.ls (N : Nat) : LoopsOk Tryz.prog (zBN.cfg N) (fnBody Tryz.f103) := loopsL (l := []) (by kernel_rfl) trivial
theorem zBN.b (N : Nat) (x0 : den s24) (x1 : den (.int .i64)) : body (zBN.cfg N) N Tryz.f103 [.one, .one] [.rd, .v] [(false, .imm)] [⟨s24, .imm, x0⟩, ⟨(.int .i64), .imm, x1⟩] (fun r i => some (r, i)) = bindO (zBN N x0 x1) fun r => some ([⟨.bool, .imm, r⟩], []) := by
  show _ = bindF _ _
  conv => rhs; simp only [zBN, bindF_ifB, bindF_bindO, bindF_pure, bindF_none, bindF_onSum]
  kernel_rfl
theorem zBN.ok (N : Nat) : ConOk Tryz.prog 103 [.one, .one] (zBN.con N) := ok2 (g := zBN.cfg N) (N := N) (res := [(false, .imm)]) tys_ok (zBN.cons N) mixed Tryz.func103 (zBN.ls N) rfl (zBN.b N)
theorem zBN.det (N : Nat) : ConDet (zBN.con N) := det2
def zA5.sk1 : Skel := ⟨.rp s24 :: (.pv (.int .i64) :: (dd 25 [])), []⟩
def zA5.xs1 : List XS := [⟨.exit 0, [0, 1, 19, 20, 21, 22], ⟨.rp s24 :: (.pv (.int .i64) :: (dd 25 [])), []⟩⟩]
def zA5.sk3 : Skel := ⟨.rp s24 :: (.pv (.int .i64) :: (dd 25 [])), []⟩
def zA5.xs3 : List XS := [⟨.exit 2, [1], ⟨dd 1 (.pv (.int .i64) :: (dd 25 [])), []⟩⟩]
def zA5.con (N : Nat) : Con := { modes := [.rd, .v], ptrs := [false], fn := fn2 s24 .imm (.int .i64) .imm (zA5 N) (fun r => [⟨(.int .i64), .imm, r⟩]) (fun r => []) }
def zA5.cfg (N : Nat) : Cfg := { ty := tys, keep := [11, 22], flt := [], elm := elm0, live := [(3, [0, 1, 19, 20, 21, 22]), (1, [0, 1, 8, 9, 10, 11, 12, 19, 20, 21, 22])], ord := [], con := [((103, [.one, .one]), zBN.con N)], loops := [(1, loopCon N zA5.sk1 zA5.xs1 (fun {R} => zA5.l1 (R := R) N)), (3, loopCon N zA5.sk3 zA5.xs3 (fun {R} => zA5.l3 (R := R) N))], joins := [] }
theorem zA5.cons (N : Nat) : ConsOk Tryz.prog (zA5.cfg N).con := (consOk_cons (hb103) (zBN.ok N) (zBN.det N) consOk_nil)
theorem zA5.h3 {R : Type} (N : Nat) (d : zA5.sk3.D) (kn : zA5.sk3.D → Option R) (kx : XD zA5.xs3 → Option R) : roundK (zA5.cfg N) N (nthLoop (fnBody Tryz.f89) 1) zA5.sk3 zA5.xs3 d kn kx = zA5.l3 N d kn kx := by kernel_rfl
theorem zA5.i3 (N : Nat) : LoopsOk Tryz.prog (zA5.cfg N) (nthLoop (fnBody Tryz.f89) 1) := loopsL (l := []) (by kernel_rfl) trivial
theorem zA5.o3 (N : Nat) : LoopOk Tryz.prog (nthLoop (fnBody Tryz.f89) 1) (loopCon N zA5.sk3 zA5.xs3 (fun {R} => zA5.l3 (R := R) N)) := loop_ok (g := zA5.cfg N) tys_ok (zA5.cons N) mixed (zA5.i3 N) (fun d kn kx => zA5.h3 N d kn kx)
theorem zA5.h1 {R : Type} (N : Nat) (d : zA5.sk1.D) (kn : zA5.sk1.D → Option R) (kx : XD zA5.xs1 → Option R) : roundK (zA5.cfg N) N (nthLoop (fnBody Tryz.f89) 0) zA5.sk1 zA5.xs1 d kn kx = zA5.l1 N d kn kx := by kernel_rfl
theorem zA5.i1 (N : Nat) : LoopsOk Tryz.prog (zA5.cfg N) (nthLoop (fnBody Tryz.f89) 0) := loopsL (l := []) (by kernel_rfl) trivial
theorem zA5.o1 (N : Nat) : LoopOk Tryz.prog (nthLoop (fnBody Tryz.f89) 0) (loopCon N zA5.sk1 zA5.xs1 (fun {R} => zA5.l1 (R := R) N)) := loop_ok (g := zA5.cfg N) tys_ok (zA5.cons N) mixed (zA5.i1 N) (fun d kn kx => zA5.h1 N d kn kx)
theorem zA5.ls (N : Nat) : LoopsOk Tryz.prog (zA5.cfg N) (fnBody Tryz.f89) := loopsL (l := [nthLoop (fnBody Tryz.f89) 0, nthLoop (fnBody Tryz.f89) 1]) (by kernel_rfl) ⟨loopOne (L0 := loopCon N zA5.sk1 zA5.xs1 (fun {R} => zA5.l1 (R := R) N)) (id := 1) (by kernel_rfl) (by kernel_rfl) (zA5.o1 N), ⟨loopOne (L0 := loopCon N zA5.sk3 zA5.xs3 (fun {R} => zA5.l3 (R := R) N)) (id := 3) (by kernel_rfl) (by kernel_rfl) (zA5.o3 N), trivial⟩⟩
theorem zA5.q3 {R R' : Type} {N n : Nat} {d} {k} {g : R → Option R'} : bindF (loopP (zA5.l3 N) n d k) g = loopP (zA5.l3 N) n d fun e => bindF (k e) g := bindF_loopP (fun d kn kx => by simp only [zA5.l3, bindF_ifB, bindF_bindO, bindF_pure, bindF_none, bindF_onSum]) n d k
theorem zA5.q1 {R R' : Type} {N n : Nat} {d} {k} {g : R → Option R'} : bindF (loopP (zA5.l1 N) n d k) g = loopP (zA5.l1 N) n d fun e => bindF (k e) g := bindF_loopP (fun d kn kx => by simp only [zA5.l1, bindF_ifB, bindF_bindO, bindF_pure, bindF_none, bindF_onSum]) n d k
theorem zA5.b (N : Nat) (x0 : den s24) (x1 : den (.int .i64)) : body (zA5.cfg N) N Tryz.f89 [.one, .one] [.rd, .v] [(false, .imm)] [⟨s24, .imm, x0⟩, ⟨(.int .i64), .imm, x1⟩] (fun r i => some (r, i)) = bindO (zA5 N x0 x1) fun r => some ([⟨(.int .i64), .imm, r⟩], []) := by
  show _ = bindF _ _
  conv => rhs; simp only [zA5, bindF_ifB, bindF_bindO, bindF_pure, bindF_none, bindF_onSum, zA5.q1, zA5.q3]
  kernel_rfl
theorem zA5.ok (N : Nat) : ConOk Tryz.prog 89 [.one, .one] (zA5.con N) := ok2 (g := zA5.cfg N) (N := N) (res := [(false, .imm)]) tys_ok (zA5.cons N) mixed Tryz.func89 (zA5.ls N) rfl (zA5.b N)
theorem zA5.det (N : Nat) : ConDet (zA5.con N) := det2
def zA6.sk2 : Skel := ⟨.rp s24 :: (.pv (.int .i64) :: (dd 3 (.pv (.int .i64) :: (dd 27 [])))), []⟩
def zA6.xs2 : List XS := [⟨.exit 0, [0, 1, 5, 26, 27, 28], ⟨.rp s24 :: (.pv (.int .i64) :: (dd 3 (.pv (.int .i64) :: (dd 27 [])))), []⟩⟩]
def zA6.sk4 : Skel := ⟨.rp s24 :: (.pv (.int .i64) :: (dd 3 (.pv (.int .i64) :: (dd 27 [])))), []⟩
def zA6.xs4 : List XS := [⟨.exit 2, [1], ⟨dd 1 (.pv (.int .i64) :: (dd 31 [])), []⟩⟩]
def zA6.con (N : Nat) : Con := { modes := [.rd, .v], ptrs := [false], fn := fn2 s24 .imm (.int .i64) .imm (zA6 N) (fun r => [⟨(.int .i64), .imm, r⟩]) (fun r => []) }
def zA6.cfg (N : Nat) : Cfg := { ty := tys, keep := [10, 17, 28], flt := [], elm := elm0, live := [(4, [0, 1, 5, 26, 27, 28]), (2, [0, 1, 5, 15, 16, 17, 18, 26, 27, 28])], ord := [], con := [((53, [.one]), zAN.con N), ((103, [.one, .one]), zBN.con N)], loops := [(2, loopCon N zA6.sk2 zA6.xs2 (fun {R} => zA6.l2 (R := R) N)), (4, loopCon N zA6.sk4 zA6.xs4 (fun {R} => zA6.l4 (R := R) N))], joins := [] }
theorem zA6.cons (N : Nat) : ConsOk Tryz.prog (zA6.cfg N).con := (consOk_cons (hb53) (zAN.ok N) (zAN.det N) (consOk_cons (hb103) (zBN.ok N) (zBN.det N) consOk_nil))
theorem zA6.h4 {R : Type} (N : Nat) (d : zA6.sk4.D) (kn : zA6.sk4.D → Option R) (kx : XD zA6.xs4 → Option R) : roundK (zA6.cfg N) N (nthLoop (fnBody Tryz.f90) 1) zA6.sk4 zA6.xs4 d kn kx = zA6.l4 N d kn kx := by kernel_rfl
theorem zA6.i4 (N : Nat) : LoopsOk Tryz.prog (zA6.cfg N) (nthLoop (fnBody Tryz.f90) 1) := loopsL (l := []) (by kernel_rfl) trivial
theorem zA6.o4 (N : Nat) : LoopOk Tryz.prog (nthLoop (fnBody Tryz.f90) 1) (loopCon N zA6.sk4 zA6.xs4 (fun {R} => zA6.l4 (R := R) N)) := loop_ok (g := zA6.cfg N) tys_ok (zA6.cons N) mixed (zA6.i4 N) (fun d kn kx => zA6.h4 N d kn kx)
theorem zA6.h2 {R : Type} (N : Nat) (d : zA6.sk2.D) (kn : zA6.sk2.D → Option R) (kx : XD zA6.xs2 → Option R) : roundK (zA6.cfg N) N (nthLoop (fnBody Tryz.f90) 0) zA6.sk2 zA6.xs2 d kn kx = zA6.l2 N d kn kx := by kernel_rfl
theorem zA6.i2 (N : Nat) : LoopsOk Tryz.prog (zA6.cfg N) (nthLoop (fnBody Tryz.f90) 0) := loopsL (l := []) (by kernel_rfl) trivial
theorem zA6.o2 (N : Nat) : LoopOk Tryz.prog (nthLoop (fnBody Tryz.f90) 0) (loopCon N zA6.sk2 zA6.xs2 (fun {R} => zA6.l2 (R := R) N)) := loop_ok (g := zA6.cfg N) tys_ok (zA6.cons N) mixed (zA6.i2 N) (fun d kn kx => zA6.h2 N d kn kx)
theorem zA6.ls (N : Nat) : LoopsOk Tryz.prog (zA6.cfg N) (fnBody Tryz.f90) := loopsL (l := [nthLoop (fnBody Tryz.f90) 0, nthLoop (fnBody Tryz.f90) 1]) (by kernel_rfl) ⟨loopOne (L0 := loopCon N zA6.sk2 zA6.xs2 (fun {R} => zA6.l2 (R := R) N)) (id := 2) (by kernel_rfl) (by kernel_rfl) (zA6.o2 N), ⟨loopOne (L0 := loopCon N zA6.sk4 zA6.xs4 (fun {R} => zA6.l4 (R := R) N)) (id := 4) (by kernel_rfl) (by kernel_rfl) (zA6.o4 N), trivial⟩⟩
theorem zA6.q4 {R R' : Type} {N n : Nat} {d} {k} {g : R → Option R'} : bindF (loopP (zA6.l4 N) n d k) g = loopP (zA6.l4 N) n d fun e => bindF (k e) g := bindF_loopP (fun d kn kx => by simp only [zA6.l4, bindF_ifB, bindF_bindO, bindF_pure, bindF_none, bindF_onSum]) n d k
theorem zA6.q2 {R R' : Type} {N n : Nat} {d} {k} {g : R → Option R'} : bindF (loopP (zA6.l2 N) n d k) g = loopP (zA6.l2 N) n d fun e => bindF (k e) g := bindF_loopP (fun d kn kx => by simp only [zA6.l2, bindF_ifB, bindF_bindO, bindF_pure, bindF_none, bindF_onSum]) n d k
theorem zA6.b (N : Nat) (x0 : den s24) (x1 : den (.int .i64)) : body (zA6.cfg N) N Tryz.f90 [.one, .one] [.rd, .v] [(false, .imm)] [⟨s24, .imm, x0⟩, ⟨(.int .i64), .imm, x1⟩] (fun r i => some (r, i)) = bindO (zA6 N x0 x1) fun r => some ([⟨(.int .i64), .imm, r⟩], []) := by
  show _ = bindF _ _
  conv => rhs; simp only [zA6, bindF_ifB, bindF_bindO, bindF_pure, bindF_none, bindF_onSum, zA6.q2, zA6.q4]
  kernel_rfl
theorem zA6.ok (N : Nat) : ConOk Tryz.prog 90 [.one, .one] (zA6.con N) := ok2 (g := zA6.cfg N) (N := N) (res := [(false, .imm)]) tys_ok (zA6.cons N) mixed Tryz.func90 (zA6.ls N) rfl (zA6.b N)
theorem zA6.det (N : Nat) : ConDet (zA6.con N) := det2
def zAJ.sk1 : Skel := ⟨.rp s24 :: (.pv (.int .i64) :: (dd 19 [])), []⟩
def zAJ.xs1 : List XS := [⟨.exit 0, [1], ⟨dd 1 (.pv (.int .i64) :: (dd 19 [])), []⟩⟩]
def zAJ.con (N : Nat) : Con := { modes := [.rd, .v], ptrs := [false], fn := fn2 s24 .imm (.int .i64) .imm (zAJ N) (fun r => [⟨(.int .i64), .imm, r⟩]) (fun r => []) }
def zAJ.cfg (N : Nat) : Cfg := { ty := tys, keep := [], flt := [], elm := elm0, live := [(1, [0, 1, 8, 9, 10, 11, 12, 13, 14, 15, 16])], ord := [], con := [], loops := [(1, loopCon N zAJ.sk1 zAJ.xs1 (fun {R} => zAJ.l1 (R := R) N))], joins := [] }
theorem zAJ.cons (N : Nat) : ConsOk Tryz.prog (zAJ.cfg N).con := consOk_nil
theorem zAJ.h1 {R : Type} (N : Nat) (d : zAJ.sk1.D) (kn : zAJ.sk1.D → Option R) (kx : XD zAJ.xs1 → Option R) : roundK (zAJ.cfg N) N (nthLoop (fnBody Tryz.f50) 0) zAJ.sk1 zAJ.xs1 d kn kx = zAJ.l1 N d kn kx := by kernel_rfl
theorem zAJ.i1 (N : Nat) : LoopsOk Tryz.prog (zAJ.cfg N) (nthLoop (fnBody Tryz.f50) 0) := loopsL (l := []) (by kernel_rfl) trivial
theorem zAJ.o1 (N : Nat) : LoopOk Tryz.prog (nthLoop (fnBody Tryz.f50) 0) (loopCon N zAJ.sk1 zAJ.xs1 (fun {R} => zAJ.l1 (R := R) N)) := loop_ok (g := zAJ.cfg N) tys_ok (zAJ.cons N) mixed (zAJ.i1 N) (fun d kn kx => zAJ.h1 N d kn kx)
theorem zAJ.ls (N : Nat) : LoopsOk Tryz.prog (zAJ.cfg N) (fnBody Tryz.f50) := loopsL (l := [nthLoop (fnBody Tryz.f50) 0]) (by kernel_rfl) ⟨loopOne (L0 := loopCon N zAJ.sk1 zAJ.xs1 (fun {R} => zAJ.l1 (R := R) N)) (id := 1) (by kernel_rfl) (by kernel_rfl) (zAJ.o1 N), trivial⟩
theorem zAJ.q1 {R R' : Type} {N n : Nat} {d} {k} {g : R → Option R'} : bindF (loopP (zAJ.l1 N) n d k) g = loopP (zAJ.l1 N) n d fun e => bindF (k e) g := bindF_loopP (fun d kn kx => by simp only [zAJ.l1, bindF_ifB, bindF_bindO, bindF_pure, bindF_none, bindF_onSum]) n d k
theorem zAJ.b (N : Nat) (x0 : den s24) (x1 : den (.int .i64)) : body (zAJ.cfg N) N Tryz.f50 [.one, .one] [.rd, .v] [(false, .imm)] [⟨s24, .imm, x0⟩, ⟨(.int .i64), .imm, x1⟩] (fun r i => some (r, i)) = bindO (zAJ N x0 x1) fun r => some ([⟨(.int .i64), .imm, r⟩], []) := by
  show _ = bindF _ _
  conv => rhs; simp only [zAJ, bindF_ifB, bindF_bindO, bindF_pure, bindF_none, bindF_onSum, zAJ.q1]
  kernel_rfl
theorem zAJ.ok (N : Nat) : ConOk Tryz.prog 50 [.one, .one] (zAJ.con N) := ok2 (g := zAJ.cfg N) (N := N) (res := [(false, .imm)]) tys_ok (zAJ.cons N) mixed Tryz.func50 (zAJ.ls N) rfl (zAJ.b N)
theorem zAJ.det (N : Nat) : ConDet (zAJ.con N) := det2
def zAT.sk1 : Skel := ⟨.rp s24 :: (.pv (.int .i64) :: (dd 23 [])), []⟩
def zAT.xs1 : List XS := [⟨.exit 0, [1], ⟨dd 1 (.pv (.int .i64) :: (dd 23 [])), []⟩⟩]
def zAT.con (N : Nat) : Con := { modes := [.rd, .v], ptrs := [false], fn := fn2 s24 .imm (.int .i64) .imm (zAT N) (fun r => [⟨(.int .i64), .imm, r⟩]) (fun r => []) }
def zAT.cfg (N : Nat) : Cfg := { ty := tys, keep := [10], flt := [], elm := elm0, live := [(1, [0, 1, 13, 14, 15, 16, 17, 18, 19, 20])], ord := [], con := [((53, [.one]), zAN.con N)], loops := [(1, loopCon N zAT.sk1 zAT.xs1 (fun {R} => zAT.l1 (R := R) N))], joins := [] }
theorem zAT.cons (N : Nat) : ConsOk Tryz.prog (zAT.cfg N).con := (consOk_cons (hb53) (zAN.ok N) (zAN.det N) consOk_nil)
theorem zAT.h1 {R : Type} (N : Nat) (d : zAT.sk1.D) (kn : zAT.sk1.D → Option R) (kx : XD zAT.xs1 → Option R) : roundK (zAT.cfg N) N (nthLoop (fnBody Tryz.f51) 0) zAT.sk1 zAT.xs1 d kn kx = zAT.l1 N d kn kx := by kernel_rfl
theorem zAT.i1 (N : Nat) : LoopsOk Tryz.prog (zAT.cfg N) (nthLoop (fnBody Tryz.f51) 0) := loopsL (l := []) (by kernel_rfl) trivial
theorem zAT.o1 (N : Nat) : LoopOk Tryz.prog (nthLoop (fnBody Tryz.f51) 0) (loopCon N zAT.sk1 zAT.xs1 (fun {R} => zAT.l1 (R := R) N)) := loop_ok (g := zAT.cfg N) tys_ok (zAT.cons N) mixed (zAT.i1 N) (fun d kn kx => zAT.h1 N d kn kx)
theorem zAT.ls (N : Nat) : LoopsOk Tryz.prog (zAT.cfg N) (fnBody Tryz.f51) := loopsL (l := [nthLoop (fnBody Tryz.f51) 0]) (by kernel_rfl) ⟨loopOne (L0 := loopCon N zAT.sk1 zAT.xs1 (fun {R} => zAT.l1 (R := R) N)) (id := 1) (by kernel_rfl) (by kernel_rfl) (zAT.o1 N), trivial⟩
theorem zAT.q1 {R R' : Type} {N n : Nat} {d} {k} {g : R → Option R'} : bindF (loopP (zAT.l1 N) n d k) g = loopP (zAT.l1 N) n d fun e => bindF (k e) g := bindF_loopP (fun d kn kx => by simp only [zAT.l1, bindF_ifB, bindF_bindO, bindF_pure, bindF_none, bindF_onSum]) n d k
theorem zAT.b (N : Nat) (x0 : den s24) (x1 : den (.int .i64)) : body (zAT.cfg N) N Tryz.f51 [.one, .one] [.rd, .v] [(false, .imm)] [⟨s24, .imm, x0⟩, ⟨(.int .i64), .imm, x1⟩] (fun r i => some (r, i)) = bindO (zAT N x0 x1) fun r => some ([⟨(.int .i64), .imm, r⟩], []) := by
  show _ = bindF _ _
  conv => rhs; simp only [zAT, bindF_ifB, bindF_bindO, bindF_pure, bindF_none, bindF_onSum, zAT.q1]
  kernel_rfl
theorem zAT.ok (N : Nat) : ConOk Tryz.prog 51 [.one, .one] (zAT.con N) := ok2 (g := zAT.cfg N) (N := N) (res := [(false, .imm)]) tys_ok (zAT.cons N) mixed Tryz.func51 (zAT.ls N) rfl (zAT.b N)
theorem zAT.det (N : Nat) : ConDet (zAT.con N) := det2
def zAO.sk3 : Skel := ⟨dd 3 (.ov 50 [] :: (dd 6 (.pv s23 :: (.pv (.int .i64) :: (.pv (.int .i64) :: (dd 13 [])))))), [⟨50, s23, (.own .imm), false, false⟩]⟩
def zAO.xs3 : List XS := [⟨.exit 0, [3], ⟨dd 3 (.ov 50 [] :: (dd 22 [])), [⟨50, s23, (.own .imm), false, false⟩]⟩⟩]
def zAO.con (N : Nat) : Con := { modes := [.rd], ptrs := [false], fn := fn1 s24 .imm (zAO N) (fun r => [⟨s23, (.own .imm), r⟩]) (fun r => []) }
def zAO.cfg (N : Nat) : Cfg := { ty := tys, keep := [], flt := [], elm := elm0, live := [(3, [3, 10, 11, 12])], ord := [], con := [], loops := [(3, loopCon N zAO.sk3 zAO.xs3 (fun {R} => zAO.l3 (R := R) N))], joins := [(7, [⟨.normal, [3, 10, 11, 12], ⟨dd 3 (.ov 50 [] :: (dd 6 (.pv s23 :: (.pv (.int .i64) :: (.pv (.int .i64) :: (dd 13 [])))))), [⟨50, s23, (.own .imm), false, false⟩]⟩⟩])] }
theorem zAO.cons (N : Nat) : ConsOk Tryz.prog (zAO.cfg N).con := consOk_nil
theorem zAO.h3 {R : Type} (N : Nat) (d : zAO.sk3.D) (kn : zAO.sk3.D → Option R) (kx : XD zAO.xs3 → Option R) : roundK (zAO.cfg N) N (nthLoop (fnBody Tryz.f105) 0) zAO.sk3 zAO.xs3 d kn kx = zAO.l3 N d kn kx := by kernel_rfl
theorem zAO.i3 (N : Nat) : LoopsOk Tryz.prog (zAO.cfg N) (nthLoop (fnBody Tryz.f105) 0) := loopsL (l := []) (by kernel_rfl) trivial
theorem zAO.o3 (N : Nat) : LoopOk Tryz.prog (nthLoop (fnBody Tryz.f105) 0) (loopCon N zAO.sk3 zAO.xs3 (fun {R} => zAO.l3 (R := R) N)) := loop_ok (g := zAO.cfg N) tys_ok (zAO.cons N) mixed (zAO.i3 N) (fun d kn kx => zAO.h3 N d kn kx)
theorem zAO.ls (N : Nat) : LoopsOk Tryz.prog (zAO.cfg N) (fnBody Tryz.f105) := loopsL (l := [nthLoop (fnBody Tryz.f105) 0]) (by kernel_rfl) ⟨loopOne (L0 := loopCon N zAO.sk3 zAO.xs3 (fun {R} => zAO.l3 (R := R) N)) (id := 3) (by kernel_rfl) (by kernel_rfl) (zAO.o3 N), trivial⟩
theorem zAO.q3 {R R' : Type} {N n : Nat} {d} {k} {g : R → Option R'} : bindF (loopP (zAO.l3 N) n d k) g = loopP (zAO.l3 N) n d fun e => bindF (k e) g := bindF_loopP (fun d kn kx => by simp only [zAO.l3, bindF_ifB, bindF_bindO, bindF_pure, bindF_none, bindF_onSum]) n d k
theorem zAO.b (N : Nat) (x0 : den s24) : body (zAO.cfg N) N Tryz.f105 [.one] [.rd] [(false, (.own .imm))] [⟨s24, .imm, x0⟩] (fun r i => some (r, i)) = bindO (zAO N x0) fun r => some ([⟨s23, (.own .imm), r⟩], []) := by
  show _ = bindF _ _
  conv => rhs; simp only [zAO, bindF_ifB, bindF_bindO, bindF_pure, bindF_none, bindF_onSum, zAO.q3]
  kernel_rfl
theorem zAO.ok (N : Nat) : ConOk Tryz.prog 105 [.one] (zAO.con N) := ok1 (g := zAO.cfg N) (N := N) (res := [(false, (.own .imm))]) tys_ok (zAO.cons N) mixed Tryz.func105 (zAO.ls N) rfl (zAO.b N)
theorem zAO.det (N : Nat) : ConDet (zAO.con N) := det1
def zA7.sk2 : Skel := ⟨.pv s23 :: (.pv (.int .i64) :: (dd 5 (.pv (.int .i64) :: (.pv (.int .i64) :: (dd 10 []))))), []⟩
def zA7.xs2 : List XS := [⟨.exit 0, [], ⟨dd 19 [], []⟩⟩, ⟨.ret, [4], ⟨dd 4 (.pv (.int .i64) :: (dd 14 [])), []⟩⟩]
def zA7.con (N : Nat) : Con := { modes := [.v, .v], ptrs := [false], fn := fn2 s23 .imm (.int .i64) .imm (zA7 N) (fun r => [⟨(.int .i64), .imm, r⟩]) (fun r => []) }
def zA7.cfg (N : Nat) : Cfg := { ty := tys, keep := [], flt := [], elm := elm0, live := [(2, [0, 1, 7, 8])], ord := [], con := [], loops := [(2, loopCon N zA7.sk2 zA7.xs2 (fun {R} => zA7.l2 (R := R) N))], joins := [] }
theorem zA7.cons (N : Nat) : ConsOk Tryz.prog (zA7.cfg N).con := consOk_nil
theorem zA7.h2 {R : Type} (N : Nat) (d : zA7.sk2.D) (kn : zA7.sk2.D → Option R) (kx : XD zA7.xs2 → Option R) : roundK (zA7.cfg N) N (nthLoop (fnBody Tryz.f104) 0) zA7.sk2 zA7.xs2 d kn kx = zA7.l2 N d kn kx := by kernel_rfl
theorem zA7.i2 (N : Nat) : LoopsOk Tryz.prog (zA7.cfg N) (nthLoop (fnBody Tryz.f104) 0) := loopsL (l := []) (by kernel_rfl) trivial
theorem zA7.o2 (N : Nat) : LoopOk Tryz.prog (nthLoop (fnBody Tryz.f104) 0) (loopCon N zA7.sk2 zA7.xs2 (fun {R} => zA7.l2 (R := R) N)) := loop_ok (g := zA7.cfg N) tys_ok (zA7.cons N) mixed (zA7.i2 N) (fun d kn kx => zA7.h2 N d kn kx)
theorem zA7.ls (N : Nat) : LoopsOk Tryz.prog (zA7.cfg N) (fnBody Tryz.f104) := loopsL (l := [nthLoop (fnBody Tryz.f104) 0]) (by kernel_rfl) ⟨loopOne (L0 := loopCon N zA7.sk2 zA7.xs2 (fun {R} => zA7.l2 (R := R) N)) (id := 2) (by kernel_rfl) (by kernel_rfl) (zA7.o2 N), trivial⟩
theorem zA7.q2 {R R' : Type} {N n : Nat} {d} {k} {g : R → Option R'} : bindF (loopP (zA7.l2 N) n d k) g = loopP (zA7.l2 N) n d fun e => bindF (k e) g := bindF_loopP (fun d kn kx => by simp only [zA7.l2, bindF_ifB, bindF_bindO, bindF_pure, bindF_none, bindF_onSum]) n d k
theorem zA7.b (N : Nat) (x0 : den s23) (x1 : den (.int .i64)) : body (zA7.cfg N) N Tryz.f104 [.one, .one] [.v, .v] [(false, .imm)] [⟨s23, .imm, x0⟩, ⟨(.int .i64), .imm, x1⟩] (fun r i => some (r, i)) = bindO (zA7 N x0 x1) fun r => some ([⟨(.int .i64), .imm, r⟩], []) := by
  show _ = bindF _ _
  conv => rhs; simp only [zA7, bindF_ifB, bindF_bindO, bindF_pure, bindF_none, bindF_onSum, zA7.q2]
  kernel_rfl
theorem zA7.ok (N : Nat) : ConOk Tryz.prog 104 [.one, .one] (zA7.con N) := ok2 (g := zA7.cfg N) (N := N) (res := [(false, .imm)]) tys_ok (zA7.cons N) mixed Tryz.func104 (zA7.ls N) rfl (zA7.b N)
theorem zA7.det (N : Nat) : ConDet (zA7.con N) := det2
def zC3.con (N : Nat) : Con := { modes := [.rd, .v], ptrs := [false], fn := fn2 s24 .imm (.int .i64) .imm (zC3 N) (fun r => [⟨s102, .imm, r⟩]) (fun r => []) }
def zC3.cfg (N : Nat) : Cfg := { ty := tys, keep := [8, 10, 12], flt := [], elm := elm0, live := [], ord := [], con := [((50, [.one, .one]), zAJ.con N), ((105, [.one]), zAO.con N), ((104, [.one, .one]), zA7.con N)], loops := [], joins := [] }
theorem zC3.cons (N : Nat) : ConsOk Tryz.prog (zC3.cfg N).con := (consOk_cons (hb50) (zAJ.ok N) (zAJ.det N) (consOk_cons (hb105) (zAO.ok N) (zAO.det N) (consOk_cons (hb104) (zA7.ok N) (zA7.det N) consOk_nil)))
theorem zC3.ls (N : Nat) : LoopsOk Tryz.prog (zC3.cfg N) (fnBody Tryz.f91) := loopsL (l := []) (by kernel_rfl) trivial
theorem zC3.b (N : Nat) (x0 : den s24) (x1 : den (.int .i64)) : body (zC3.cfg N) N Tryz.f91 [.one, .one] [.rd, .v] [(false, .imm)] [⟨s24, .imm, x0⟩, ⟨(.int .i64), .imm, x1⟩] (fun r i => some (r, i)) = bindO (zC3 N x0 x1) fun r => some ([⟨s102, .imm, r⟩], []) := by
  show _ = bindF _ _
  conv => rhs; simp only [zC3, bindF_ifB, bindF_bindO, bindF_pure, bindF_none, bindF_onSum]
  kernel_rfl
theorem zC3.ok (N : Nat) : ConOk Tryz.prog 91 [.one, .one] (zC3.con N) := ok2 (g := zC3.cfg N) (N := N) (res := [(false, .imm)]) tys_ok (zC3.cons N) mixed Tryz.func91 (zC3.ls N) rfl (zC3.b N)
theorem zC3.det (N : Nat) : ConDet (zC3.con N) := det2
end Go.AE.F
end
