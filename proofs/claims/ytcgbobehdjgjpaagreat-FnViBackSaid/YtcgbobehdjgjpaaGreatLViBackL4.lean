/- The printed functions are what the program comes to: contracts. -/
import Derived.Test.YtcgbobehdjgjpaaGreatLViBackL3
noncomputable section
namespace Go.AE.F
open Go.AE Go.Proofs Go.Lib
set_option maxRecDepth 100000
def zA6.sk1 : Skel := ⟨.rp s24 :: (.pv (.int .i64) :: (dd 25 [])), []⟩
def zA6.xs1 : List XS := [⟨.exit 0, [0, 1, 19, 20, 21, 22], ⟨.rp s24 :: (.pv (.int .i64) :: (dd 25 [])), []⟩⟩]
def zA6.sk3 : Skel := ⟨.rp s24 :: (.pv (.int .i64) :: (dd 25 [])), []⟩
def zA6.xs3 : List XS := [⟨.exit 2, [1], ⟨dd 1 (.pv (.int .i64) :: (dd 25 [])), []⟩⟩]
def zA6.con (N : Nat) : Con := { modes := [.rd, .v], ptrs := [false], fn := fn2 s24 .imm (.int .i64) .imm (zA6 N) (fun r => [⟨(.int .i64), .imm, r⟩]) (fun r => []) }
def zA6.cfg (N : Nat) : Cfg := { ty := tys, keep := [11, 22], flt := [], elm := elm0, live := [(3, [0, 1, 19, 20, 21, 22]), (1, [0, 1, 8, 9, 10, 11, 12, 19, 20, 21, 22])], ord := [], con := [((99, [.one, .one]), zBI.con N)], loops := [(1, loopCon N zA6.sk1 zA6.xs1 (fun {R} => zA6.l1 (R := R) N)), (3, loopCon N zA6.sk3 zA6.xs3 (fun {R} => zA6.l3 (R := R) N))], joins := [] }
theorem zA6.cons (N : Nat) : ConsOk Tryz.prog (zA6.cfg N).con := (consOk_cons (hb99) (zBI.ok N) (zBI.det N) consOk_nil)
theorem zA6.h3 {R : Type} (N : Nat) (d : zA6.sk3.D) (kn : zA6.sk3.D → Option R) (kx : XD zA6.xs3 → Option R) : roundK (zA6.cfg N) N (nthLoop (fnBody Tryz.f85) 1) zA6.sk3 zA6.xs3 d kn kx = zA6.l3 N d kn kx := by kernel_rfl
theorem zA6.i3 (N : Nat) : LoopsOk Tryz.prog (zA6.cfg N) (nthLoop (fnBody Tryz.f85) 1) := loopsL (l := []) (by kernel_rfl) trivial
theorem zA6.o3 (N : Nat) : LoopOk Tryz.prog (nthLoop (fnBody Tryz.f85) 1) (loopCon N zA6.sk3 zA6.xs3 (fun {R} => zA6.l3 (R := R) N)) := loop_ok (g := zA6.cfg N) tys_ok (zA6.cons N) mixed (zA6.i3 N) (fun d kn kx => zA6.h3 N d kn kx)
theorem zA6.h1 {R : Type} (N : Nat) (d : zA6.sk1.D) (kn : zA6.sk1.D → Option R) (kx : XD zA6.xs1 → Option R) : roundK (zA6.cfg N) N (nthLoop (fnBody Tryz.f85) 0) zA6.sk1 zA6.xs1 d kn kx = zA6.l1 N d kn kx := by kernel_rfl
theorem zA6.i1 (N : Nat) : LoopsOk Tryz.prog (zA6.cfg N) (nthLoop (fnBody Tryz.f85) 0) := loopsL (l := []) (by kernel_rfl) trivial
theorem zA6.o1 (N : Nat) : LoopOk Tryz.prog (nthLoop (fnBody Tryz.f85) 0) (loopCon N zA6.sk1 zA6.xs1 (fun {R} => zA6.l1 (R := R) N)) := loop_ok (g := zA6.cfg N) tys_ok (zA6.cons N) mixed (zA6.i1 N) (fun d kn kx => zA6.h1 N d kn kx)
theorem zA6.ls (N : Nat) : LoopsOk Tryz.prog (zA6.cfg N) (fnBody Tryz.f85) := loopsL (l := [nthLoop (fnBody Tryz.f85) 0, nthLoop (fnBody Tryz.f85) 1]) (by kernel_rfl) ⟨loopOne (L0 := loopCon N zA6.sk1 zA6.xs1 (fun {R} => zA6.l1 (R := R) N)) (id := 1) (by kernel_rfl) (by kernel_rfl) (zA6.o1 N), ⟨loopOne (L0 := loopCon N zA6.sk3 zA6.xs3 (fun {R} => zA6.l3 (R := R) N)) (id := 3) (by kernel_rfl) (by kernel_rfl) (zA6.o3 N), trivial⟩⟩
theorem zA6.q3 {R R' : Type} {N n : Nat} {d} {k} {g : R → Option R'} : bindF (loopP (zA6.l3 N) n d k) g = loopP (zA6.l3 N) n d fun e => bindF (k e) g := bindF_loopP (fun d kn kx => by simp only [zA6.l3, bindF_ifB, bindF_bindO, bindF_pure, bindF_none, bindF_onSum]) n d k
theorem zA6.q1 {R R' : Type} {N n : Nat} {d} {k} {g : R → Option R'} : bindF (loopP (zA6.l1 N) n d k) g = loopP (zA6.l1 N) n d fun e => bindF (k e) g := bindF_loopP (fun d kn kx => by simp only [zA6.l1, bindF_ifB, bindF_bindO, bindF_pure, bindF_none, bindF_onSum]) n d k
theorem zA6.b (N : Nat) (x0 : den s24) (x1 : den (.int .i64)) : body (zA6.cfg N) N Tryz.f85 [.one, .one] [.rd, .v] [(false, .imm)] [⟨s24, .imm, x0⟩, ⟨(.int .i64), .imm, x1⟩] (fun r i => some (r, i)) = bindO (zA6 N x0 x1) fun r => some ([⟨(.int .i64), .imm, r⟩], []) := by
  show _ = bindF _ _
  conv => rhs; simp only [zA6, bindF_ifB, bindF_bindO, bindF_pure, bindF_none, bindF_onSum, zA6.q1, zA6.q3]
  kernel_rfl
theorem zA6.ok (N : Nat) : ConOk Tryz.prog 85 [.one, .one] (zA6.con N) := ok2 (g := zA6.cfg N) (N := N) (res := [(false, .imm)]) tys_ok (zA6.cons N) mixed Tryz.func85 (zA6.ls N) rfl (zA6.b N)
theorem zA6.det (N : Nat) : ConDet (zA6.con N) := det2
def zA5.sk2 : Skel := ⟨.rp s24 :: (.pv (.int .i64) :: (dd 3 (.pv (.int .i64) :: (dd 27 [])))), []⟩
def zA5.xs2 : List XS := [⟨.exit 0, [0, 1, 5, 26, 27, 28], ⟨.rp s24 :: (.pv (.int .i64) :: (dd 3 (.pv (.int .i64) :: (dd 27 [])))), []⟩⟩]
def zA5.sk4 : Skel := ⟨.rp s24 :: (.pv (.int .i64) :: (dd 3 (.pv (.int .i64) :: (dd 27 [])))), []⟩
def zA5.xs4 : List XS := [⟨.exit 2, [1], ⟨dd 1 (.pv (.int .i64) :: (dd 31 [])), []⟩⟩]
def zA5.con (N : Nat) : Con := { modes := [.rd, .v], ptrs := [false], fn := fn2 s24 .imm (.int .i64) .imm (zA5 N) (fun r => [⟨(.int .i64), .imm, r⟩]) (fun r => []) }
def zA5.cfg (N : Nat) : Cfg := { ty := tys, keep := [10, 17, 28], flt := [], elm := elm0, live := [(4, [0, 1, 5, 26, 27, 28]), (2, [0, 1, 5, 15, 16, 17, 18, 26, 27, 28])], ord := [], con := [((48, [.one]), zAN.con N), ((99, [.one, .one]), zBI.con N)], loops := [(2, loopCon N zA5.sk2 zA5.xs2 (fun {R} => zA5.l2 (R := R) N)), (4, loopCon N zA5.sk4 zA5.xs4 (fun {R} => zA5.l4 (R := R) N))], joins := [] }
theorem zA5.cons (N : Nat) : ConsOk Tryz.prog (zA5.cfg N).con := (consOk_cons (hb48) (zAN.ok N) (zAN.det N) (consOk_cons (hb99) (zBI.ok N) (zBI.det N) consOk_nil))
theorem zA5.h4 {R : Type} (N : Nat) (d : zA5.sk4.D) (kn : zA5.sk4.D → Option R) (kx : XD zA5.xs4 → Option R) : roundK (zA5.cfg N) N (nthLoop (fnBody Tryz.f86) 1) zA5.sk4 zA5.xs4 d kn kx = zA5.l4 N d kn kx := by kernel_rfl
theorem zA5.i4 (N : Nat) : LoopsOk Tryz.prog (zA5.cfg N) (nthLoop (fnBody Tryz.f86) 1) := loopsL (l := []) (by kernel_rfl) trivial
theorem zA5.o4 (N : Nat) : LoopOk Tryz.prog (nthLoop (fnBody Tryz.f86) 1) (loopCon N zA5.sk4 zA5.xs4 (fun {R} => zA5.l4 (R := R) N)) := loop_ok (g := zA5.cfg N) tys_ok (zA5.cons N) mixed (zA5.i4 N) (fun d kn kx => zA5.h4 N d kn kx)
theorem zA5.h2 {R : Type} (N : Nat) (d : zA5.sk2.D) (kn : zA5.sk2.D → Option R) (kx : XD zA5.xs2 → Option R) : roundK (zA5.cfg N) N (nthLoop (fnBody Tryz.f86) 0) zA5.sk2 zA5.xs2 d kn kx = zA5.l2 N d kn kx := by kernel_rfl
theorem zA5.i2 (N : Nat) : LoopsOk Tryz.prog (zA5.cfg N) (nthLoop (fnBody Tryz.f86) 0) := loopsL (l := []) (by kernel_rfl) trivial
theorem zA5.o2 (N : Nat) : LoopOk Tryz.prog (nthLoop (fnBody Tryz.f86) 0) (loopCon N zA5.sk2 zA5.xs2 (fun {R} => zA5.l2 (R := R) N)) := loop_ok (g := zA5.cfg N) tys_ok (zA5.cons N) mixed (zA5.i2 N) (fun d kn kx => zA5.h2 N d kn kx)
theorem zA5.ls (N : Nat) : LoopsOk Tryz.prog (zA5.cfg N) (fnBody Tryz.f86) := loopsL (l := [nthLoop (fnBody Tryz.f86) 0, nthLoop (fnBody Tryz.f86) 1]) (by kernel_rfl) ⟨loopOne (L0 := loopCon N zA5.sk2 zA5.xs2 (fun {R} => zA5.l2 (R := R) N)) (id := 2) (by kernel_rfl) (by kernel_rfl) (zA5.o2 N), ⟨loopOne (L0 := loopCon N zA5.sk4 zA5.xs4 (fun {R} => zA5.l4 (R := R) N)) (id := 4) (by kernel_rfl) (by kernel_rfl) (zA5.o4 N), trivial⟩⟩
theorem zA5.q4 {R R' : Type} {N n : Nat} {d} {k} {g : R → Option R'} : bindF (loopP (zA5.l4 N) n d k) g = loopP (zA5.l4 N) n d fun e => bindF (k e) g := bindF_loopP (fun d kn kx => by simp only [zA5.l4, bindF_ifB, bindF_bindO, bindF_pure, bindF_none, bindF_onSum]) n d k
theorem zA5.q2 {R R' : Type} {N n : Nat} {d} {k} {g : R → Option R'} : bindF (loopP (zA5.l2 N) n d k) g = loopP (zA5.l2 N) n d fun e => bindF (k e) g := bindF_loopP (fun d kn kx => by simp only [zA5.l2, bindF_ifB, bindF_bindO, bindF_pure, bindF_none, bindF_onSum]) n d k
theorem zA5.b (N : Nat) (x0 : den s24) (x1 : den (.int .i64)) : body (zA5.cfg N) N Tryz.f86 [.one, .one] [.rd, .v] [(false, .imm)] [⟨s24, .imm, x0⟩, ⟨(.int .i64), .imm, x1⟩] (fun r i => some (r, i)) = bindO (zA5 N x0 x1) fun r => some ([⟨(.int .i64), .imm, r⟩], []) := by
  show _ = bindF _ _
  conv => rhs; simp only [zA5, bindF_ifB, bindF_bindO, bindF_pure, bindF_none, bindF_onSum, zA5.q2, zA5.q4]
  kernel_rfl
theorem zA5.ok (N : Nat) : ConOk Tryz.prog 86 [.one, .one] (zA5.con N) := ok2 (g := zA5.cfg N) (N := N) (res := [(false, .imm)]) tys_ok (zA5.cons N) mixed Tryz.func86 (zA5.ls N) rfl (zA5.b N)
theorem zA5.det (N : Nat) : ConDet (zA5.con N) := det2
def zAJ.sk1 : Skel := ⟨.rp s24 :: (.pv (.int .i64) :: (dd 19 [])), []⟩
def zAJ.xs1 : List XS := [⟨.exit 0, [1], ⟨dd 1 (.pv (.int .i64) :: (dd 19 [])), []⟩⟩]
def zAJ.con (N : Nat) : Con := { modes := [.rd, .v], ptrs := [false], fn := fn2 s24 .imm (.int .i64) .imm (zAJ N) (fun r => [⟨(.int .i64), .imm, r⟩]) (fun r => []) }
def zAJ.cfg (N : Nat) : Cfg := { ty := tys, keep := [], flt := [], elm := elm0, live := [(1, [0, 1, 8, 9, 10, 11, 12, 13, 14, 15, 16])], ord := [], con := [], loops := [(1, loopCon N zAJ.sk1 zAJ.xs1 (fun {R} => zAJ.l1 (R := R) N))], joins := [] }
theorem zAJ.cons (N : Nat) : ConsOk Tryz.prog (zAJ.cfg N).con := consOk_nil
theorem zAJ.h1 {R : Type} (N : Nat) (d : zAJ.sk1.D) (kn : zAJ.sk1.D → Option R) (kx : XD zAJ.xs1 → Option R) : roundK (zAJ.cfg N) N (nthLoop (fnBody Tryz.f45) 0) zAJ.sk1 zAJ.xs1 d kn kx = zAJ.l1 N d kn kx := by kernel_rfl
theorem zAJ.i1 (N : Nat) : LoopsOk Tryz.prog (zAJ.cfg N) (nthLoop (fnBody Tryz.f45) 0) := loopsL (l := []) (by kernel_rfl) trivial
theorem zAJ.o1 (N : Nat) : LoopOk Tryz.prog (nthLoop (fnBody Tryz.f45) 0) (loopCon N zAJ.sk1 zAJ.xs1 (fun {R} => zAJ.l1 (R := R) N)) := loop_ok (g := zAJ.cfg N) tys_ok (zAJ.cons N) mixed (zAJ.i1 N) (fun d kn kx => zAJ.h1 N d kn kx)
theorem zAJ.ls (N : Nat) : LoopsOk Tryz.prog (zAJ.cfg N) (fnBody Tryz.f45) := loopsL (l := [nthLoop (fnBody Tryz.f45) 0]) (by kernel_rfl) ⟨loopOne (L0 := loopCon N zAJ.sk1 zAJ.xs1 (fun {R} => zAJ.l1 (R := R) N)) (id := 1) (by kernel_rfl) (by kernel_rfl) (zAJ.o1 N), trivial⟩
theorem zAJ.q1 {R R' : Type} {N n : Nat} {d} {k} {g : R → Option R'} : bindF (loopP (zAJ.l1 N) n d k) g = loopP (zAJ.l1 N) n d fun e => bindF (k e) g := bindF_loopP (fun d kn kx => by simp only [zAJ.l1, bindF_ifB, bindF_bindO, bindF_pure, bindF_none, bindF_onSum]) n d k
theorem zAJ.b (N : Nat) (x0 : den s24) (x1 : den (.int .i64)) : body (zAJ.cfg N) N Tryz.f45 [.one, .one] [.rd, .v] [(false, .imm)] [⟨s24, .imm, x0⟩, ⟨(.int .i64), .imm, x1⟩] (fun r i => some (r, i)) = bindO (zAJ N x0 x1) fun r => some ([⟨(.int .i64), .imm, r⟩], []) := by
  show _ = bindF _ _
  conv => rhs; simp only [zAJ, bindF_ifB, bindF_bindO, bindF_pure, bindF_none, bindF_onSum, zAJ.q1]
  kernel_rfl
theorem zAJ.ok (N : Nat) : ConOk Tryz.prog 45 [.one, .one] (zAJ.con N) := ok2 (g := zAJ.cfg N) (N := N) (res := [(false, .imm)]) tys_ok (zAJ.cons N) mixed Tryz.func45 (zAJ.ls N) rfl (zAJ.b N)
theorem zAJ.det (N : Nat) : ConDet (zAJ.con N) := det2
def zAU.sk1 : Skel := ⟨.rp s24 :: (.pv (.int .i64) :: (dd 23 [])), []⟩
def zAU.xs1 : List XS := [⟨.exit 0, [1], ⟨dd 1 (.pv (.int .i64) :: (dd 23 [])), []⟩⟩]
def zAU.con (N : Nat) : Con := { modes := [.rd, .v], ptrs := [false], fn := fn2 s24 .imm (.int .i64) .imm (zAU N) (fun r => [⟨(.int .i64), .imm, r⟩]) (fun r => []) }
def zAU.cfg (N : Nat) : Cfg := { ty := tys, keep := [10], flt := [], elm := elm0, live := [(1, [0, 1, 13, 14, 15, 16, 17, 18, 19, 20])], ord := [], con := [((48, [.one]), zAN.con N)], loops := [(1, loopCon N zAU.sk1 zAU.xs1 (fun {R} => zAU.l1 (R := R) N))], joins := [] }
theorem zAU.cons (N : Nat) : ConsOk Tryz.prog (zAU.cfg N).con := (consOk_cons (hb48) (zAN.ok N) (zAN.det N) consOk_nil)
theorem zAU.h1 {R : Type} (N : Nat) (d : zAU.sk1.D) (kn : zAU.sk1.D → Option R) (kx : XD zAU.xs1 → Option R) : roundK (zAU.cfg N) N (nthLoop (fnBody Tryz.f46) 0) zAU.sk1 zAU.xs1 d kn kx = zAU.l1 N d kn kx := by kernel_rfl
theorem zAU.i1 (N : Nat) : LoopsOk Tryz.prog (zAU.cfg N) (nthLoop (fnBody Tryz.f46) 0) := loopsL (l := []) (by kernel_rfl) trivial
theorem zAU.o1 (N : Nat) : LoopOk Tryz.prog (nthLoop (fnBody Tryz.f46) 0) (loopCon N zAU.sk1 zAU.xs1 (fun {R} => zAU.l1 (R := R) N)) := loop_ok (g := zAU.cfg N) tys_ok (zAU.cons N) mixed (zAU.i1 N) (fun d kn kx => zAU.h1 N d kn kx)
theorem zAU.ls (N : Nat) : LoopsOk Tryz.prog (zAU.cfg N) (fnBody Tryz.f46) := loopsL (l := [nthLoop (fnBody Tryz.f46) 0]) (by kernel_rfl) ⟨loopOne (L0 := loopCon N zAU.sk1 zAU.xs1 (fun {R} => zAU.l1 (R := R) N)) (id := 1) (by kernel_rfl) (by kernel_rfl) (zAU.o1 N), trivial⟩
theorem zAU.q1 {R R' : Type} {N n : Nat} {d} {k} {g : R → Option R'} : bindF (loopP (zAU.l1 N) n d k) g = loopP (zAU.l1 N) n d fun e => bindF (k e) g := bindF_loopP (fun d kn kx => by simp only [zAU.l1, bindF_ifB, bindF_bindO, bindF_pure, bindF_none, bindF_onSum]) n d k
theorem zAU.b (N : Nat) (x0 : den s24) (x1 : den (.int .i64)) : body (zAU.cfg N) N Tryz.f46 [.one, .one] [.rd, .v] [(false, .imm)] [⟨s24, .imm, x0⟩, ⟨(.int .i64), .imm, x1⟩] (fun r i => some (r, i)) = bindO (zAU N x0 x1) fun r => some ([⟨(.int .i64), .imm, r⟩], []) := by
  show _ = bindF _ _
  conv => rhs; simp only [zAU, bindF_ifB, bindF_bindO, bindF_pure, bindF_none, bindF_onSum, zAU.q1]
  kernel_rfl
theorem zAU.ok (N : Nat) : ConOk Tryz.prog 46 [.one, .one] (zAU.con N) := ok2 (g := zAU.cfg N) (N := N) (res := [(false, .imm)]) tys_ok (zAU.cons N) mixed Tryz.func46 (zAU.ls N) rfl (zAU.b N)
theorem zAU.det (N : Nat) : ConDet (zAU.con N) := det2
def zAO.sk3 : Skel := ⟨dd 3 (.ov 50 [] :: (dd 6 (.pv s23 :: (.pv (.int .i64) :: (.pv (.int .i64) :: (dd 13 [])))))), [⟨50, s23, (.own .imm), false, false⟩]⟩
def zAO.xs3 : List XS := [⟨.exit 0, [3], ⟨dd 3 (.ov 50 [] :: (dd 22 [])), [⟨50, s23, (.own .imm), false, false⟩]⟩⟩]
def zAO.con (N : Nat) : Con := { modes := [.rd], ptrs := [false], fn := fn1 s24 .imm (zAO N) (fun r => [⟨s23, (.own .imm), r⟩]) (fun r => []) }
def zAO.cfg (N : Nat) : Cfg := { ty := tys, keep := [], flt := [], elm := elm0, live := [(3, [3, 10, 11, 12])], ord := [], con := [], loops := [(3, loopCon N zAO.sk3 zAO.xs3 (fun {R} => zAO.l3 (R := R) N))], joins := [(7, [⟨.normal, [3, 10, 11, 12], ⟨dd 3 (.ov 50 [] :: (dd 6 (.pv s23 :: (.pv (.int .i64) :: (.pv (.int .i64) :: (dd 13 [])))))), [⟨50, s23, (.own .imm), false, false⟩]⟩⟩])] }
theorem zAO.cons (N : Nat) : ConsOk Tryz.prog (zAO.cfg N).con := consOk_nil
theorem zAO.h3 {R : Type} (N : Nat) (d : zAO.sk3.D) (kn : zAO.sk3.D → Option R) (kx : XD zAO.xs3 → Option R) : roundK (zAO.cfg N) N (nthLoop (fnBody Tryz.f101) 0) zAO.sk3 zAO.xs3 d kn kx = zAO.l3 N d kn kx := by kernel_rfl
theorem zAO.i3 (N : Nat) : LoopsOk Tryz.prog (zAO.cfg N) (nthLoop (fnBody Tryz.f101) 0) := loopsL (l := []) (by kernel_rfl) trivial
theorem zAO.o3 (N : Nat) : LoopOk Tryz.prog (nthLoop (fnBody Tryz.f101) 0) (loopCon N zAO.sk3 zAO.xs3 (fun {R} => zAO.l3 (R := R) N)) := loop_ok (g := zAO.cfg N) tys_ok (zAO.cons N) mixed (zAO.i3 N) (fun d kn kx => zAO.h3 N d kn kx)
theorem zAO.ls (N : Nat) : LoopsOk Tryz.prog (zAO.cfg N) (fnBody Tryz.f101) := loopsL (l := [nthLoop (fnBody Tryz.f101) 0]) (by kernel_rfl) ⟨loopOne (L0 := loopCon N zAO.sk3 zAO.xs3 (fun {R} => zAO.l3 (R := R) N)) (id := 3) (by kernel_rfl) (by kernel_rfl) (zAO.o3 N), trivial⟩
theorem zAO.q3 {R R' : Type} {N n : Nat} {d} {k} {g : R → Option R'} : bindF (loopP (zAO.l3 N) n d k) g = loopP (zAO.l3 N) n d fun e => bindF (k e) g := bindF_loopP (fun d kn kx => by simp only [zAO.l3, bindF_ifB, bindF_bindO, bindF_pure, bindF_none, bindF_onSum]) n d k
theorem zAO.b (N : Nat) (x0 : den s24) : body (zAO.cfg N) N Tryz.f101 [.one] [.rd] [(false, (.own .imm))] [⟨s24, .imm, x0⟩] (fun r i => some (r, i)) = bindO (zAO N x0) fun r => some ([⟨s23, (.own .imm), r⟩], []) := by
  show _ = bindF _ _
  conv => rhs; simp only [zAO, bindF_ifB, bindF_bindO, bindF_pure, bindF_none, bindF_onSum, zAO.q3]
  kernel_rfl
theorem zAO.ok (N : Nat) : ConOk Tryz.prog 101 [.one] (zAO.con N) := ok1 (g := zAO.cfg N) (N := N) (res := [(false, (.own .imm))]) tys_ok (zAO.cons N) mixed Tryz.func101 (zAO.ls N) rfl (zAO.b N)
theorem zAO.det (N : Nat) : ConDet (zAO.con N) := det1
def zA7.sk2 : Skel := ⟨.pv s23 :: (.pv (.int .i64) :: (dd 5 (.pv (.int .i64) :: (.pv (.int .i64) :: (dd 10 []))))), []⟩
def zA7.xs2 : List XS := [⟨.exit 0, [], ⟨dd 19 [], []⟩⟩, ⟨.ret, [4], ⟨dd 4 (.pv (.int .i64) :: (dd 14 [])), []⟩⟩]
def zA7.con (N : Nat) : Con := { modes := [.v, .v], ptrs := [false], fn := fn2 s23 .imm (.int .i64) .imm (zA7 N) (fun r => [⟨(.int .i64), .imm, r⟩]) (fun r => []) }
def zA7.cfg (N : Nat) : Cfg := { ty := tys, keep := [], flt := [], elm := elm0, live := [(2, [0, 1, 7, 8])], ord := [], con := [], loops := [(2, loopCon N zA7.sk2 zA7.xs2 (fun {R} => zA7.l2 (R := R) N))], joins := [] }
theorem zA7.cons (N : Nat) : ConsOk Tryz.prog (zA7.cfg N).con := consOk_nil
theorem zA7.h2 {R : Type} (N : Nat) (d : zA7.sk2.D) (kn : zA7.sk2.D → Option R) (kx : XD zA7.xs2 → Option R) : roundK (zA7.cfg N) N (nthLoop (fnBody Tryz.f100) 0) zA7.sk2 zA7.xs2 d kn kx = zA7.l2 N d kn kx := by kernel_rfl
theorem zA7.i2 (N : Nat) : LoopsOk Tryz.prog (zA7.cfg N) (nthLoop (fnBody Tryz.f100) 0) := loopsL (l := []) (by kernel_rfl) trivial
theorem zA7.o2 (N : Nat) : LoopOk Tryz.prog (nthLoop (fnBody Tryz.f100) 0) (loopCon N zA7.sk2 zA7.xs2 (fun {R} => zA7.l2 (R := R) N)) := loop_ok (g := zA7.cfg N) tys_ok (zA7.cons N) mixed (zA7.i2 N) (fun d kn kx => zA7.h2 N d kn kx)
theorem zA7.ls (N : Nat) : LoopsOk Tryz.prog (zA7.cfg N) (fnBody Tryz.f100) := loopsL (l := [nthLoop (fnBody Tryz.f100) 0]) (by kernel_rfl) ⟨loopOne (L0 := loopCon N zA7.sk2 zA7.xs2 (fun {R} => zA7.l2 (R := R) N)) (id := 2) (by kernel_rfl) (by kernel_rfl) (zA7.o2 N), trivial⟩
theorem zA7.q2 {R R' : Type} {N n : Nat} {d} {k} {g : R → Option R'} : bindF (loopP (zA7.l2 N) n d k) g = loopP (zA7.l2 N) n d fun e => bindF (k e) g := bindF_loopP (fun d kn kx => by simp only [zA7.l2, bindF_ifB, bindF_bindO, bindF_pure, bindF_none, bindF_onSum]) n d k
theorem zA7.b (N : Nat) (x0 : den s23) (x1 : den (.int .i64)) : body (zA7.cfg N) N Tryz.f100 [.one, .one] [.v, .v] [(false, .imm)] [⟨s23, .imm, x0⟩, ⟨(.int .i64), .imm, x1⟩] (fun r i => some (r, i)) = bindO (zA7 N x0 x1) fun r => some ([⟨(.int .i64), .imm, r⟩], []) := by
  show _ = bindF _ _
  conv => rhs; simp only [zA7, bindF_ifB, bindF_bindO, bindF_pure, bindF_none, bindF_onSum, zA7.q2]
  kernel_rfl
theorem zA7.ok (N : Nat) : ConOk Tryz.prog 100 [.one, .one] (zA7.con N) := ok2 (g := zA7.cfg N) (N := N) (res := [(false, .imm)]) tys_ok (zA7.cons N) mixed Tryz.func100 (zA7.ls N) rfl (zA7.b N)
theorem zA7.det (N : Nat) : ConDet (zA7.con N) := det2
def zBX.con (N : Nat) : Con := { modes := [.rd, .v], ptrs := [false], fn := fn2 s24 .imm (.int .i64) .imm (zBX N) (fun r => [⟨s101, .imm, r⟩]) (fun r => []) }
def zBX.cfg (N : Nat) : Cfg := { ty := tys, keep := [8, 10, 12], flt := [], elm := elm0, live := [], ord := [], con := [((45, [.one, .one]), zAJ.con N), ((101, [.one]), zAO.con N), ((100, [.one, .one]), zA7.con N)], loops := [], joins := [] }
theorem zBX.cons (N : Nat) : ConsOk Tryz.prog (zBX.cfg N).con := (consOk_cons (hb45) (zAJ.ok N) (zAJ.det N) (consOk_cons (hb101) (zAO.ok N) (zAO.det N) (consOk_cons (hb100) (zA7.ok N) (zA7.det N) consOk_nil)))
theorem zBX.ls (N : Nat) : LoopsOk Tryz.prog (zBX.cfg N) (fnBody Tryz.f87) := loopsL (l := []) (by kernel_rfl) trivial
theorem zBX.b (N : Nat) (x0 : den s24) (x1 : den (.int .i64)) : body (zBX.cfg N) N Tryz.f87 [.one, .one] [.rd, .v] [(false, .imm)] [⟨s24, .imm, x0⟩, ⟨(.int .i64), .imm, x1⟩] (fun r i => some (r, i)) = bindO (zBX N x0 x1) fun r => some ([⟨s101, .imm, r⟩], []) := by
  show _ = bindF _ _
  conv => rhs; simp only [zBX, bindF_ifB, bindF_bindO, bindF_pure, bindF_none, bindF_onSum]
  kernel_rfl
theorem zBX.ok (N : Nat) : ConOk Tryz.prog 87 [.one, .one] (zBX.con N) := ok2 (g := zBX.cfg N) (N := N) (res := [(false, .imm)]) tys_ok (zBX.cons N) mixed Tryz.func87 (zBX.ls N) rfl (zBX.b N)
theorem zBX.det (N : Nat) : ConDet (zBX.con N) := det2
def zBT.con (N : Nat) : Con := { modes := [.rd, .v], ptrs := [false], fn := fn2 s24 .imm s101 .imm (zBT N) (fun r => [⟨(.int .i64), .imm, r⟩]) (fun r => []) }
def zBT.cfg (N : Nat) : Cfg := { ty := tys, keep := [8, 14, 25], flt := [], elm := elm0, live := [], ord := [(2, [0, 1, 2, 4, 3, 5, 6, 7, 8, 9, 10]), (3, [0, 1, 2, 4, 5, 7, 3, 6, 8, 9, 10, 11])], con := [((101, [.one]), zAO.con N), ((48, [.one]), zAN.con N), ((46, [.one, .one]), zAU.con N)], loops := [], joins := [] }
theorem zBT.cons (N : Nat) : ConsOk Tryz.prog (zBT.cfg N).con := (consOk_cons (hb101) (zAO.ok N) (zAO.det N) (consOk_cons (hb48) (zAN.ok N) (zAN.det N) (consOk_cons (hb46) (zAU.ok N) (zAU.det N) consOk_nil)))
theorem zBT.ls (N : Nat) : LoopsOk Tryz.prog (zBT.cfg N) (fnBody Tryz.f88) := loopsL (l := []) (by kernel_rfl) trivial
theorem zBT.b (N : Nat) (x0 : den s24) (x1 : den s101) : body (zBT.cfg N) N Tryz.f88 [.one, .one] [.rd, .v] [(false, .imm)] [⟨s24, .imm, x0⟩, ⟨s101, .imm, x1⟩] (fun r i => some (r, i)) = bindO (zBT N x0 x1) fun r => some ([⟨(.int .i64), .imm, r⟩], []) := by
  show _ = bindF _ _
  conv => rhs; simp only [zBT, bindF_ifB, bindF_bindO, bindF_pure, bindF_none, bindF_onSum]
  kernel_rfl
theorem zBT.ok (N : Nat) : ConOk Tryz.prog 88 [.one, .one] (zBT.con N) := ok2 (g := zBT.cfg N) (N := N) (res := [(false, .imm)]) tys_ok (zBT.cons N) mixed Tryz.func88 (zBT.ls N) rfl (zBT.b N)
theorem zBT.det (N : Nat) : ConDet (zBT.con N) := det2
def zAS.sk26 : Skel := ⟨.rp s24 :: (.pv (.int .i64) :: (dd 1 (.pv (.int .i64) :: (dd 5 (.pv (.int .i64) :: (dd 1 (.pv (.int .i64) :: (dd 85 [])))))))), []⟩
def zAS.xs26 : List XS := [⟨.exit 1, [1], ⟨dd 1 (.pv (.int .i64) :: (dd 95 [])), []⟩⟩, ⟨.ret, [8], ⟨dd 8 (.pv (.int .i64) :: (dd 88 [])), []⟩⟩]
def zAS.con (N : Nat) : Con := { modes := [.rd, .v, .v, .v], ptrs := [false], fn := fn4 s24 .imm (.int .i64) .imm (.int .i64) .imm (.int .i64) .imm (zAS N) (fun r => [⟨(.int .i64), .imm, r⟩]) (fun r => []) }
def zAS.cfg (N : Nat) : Cfg := { ty := tys, keep := [16, 33, 38, 43, 48, 54, 62, 73], flt := [], elm := elm0, live := [(26, [0, 1, 3, 9, 11])], ord := [(17, [13, 0, 1, 5, 6, 7, 8, 9, 2, 3, 4, 10, 11, 12, 14])], con := [((48, [.one]), zAN.con N), ((85, [.one, .one]), zA6.con N), ((86, [.one, .one]), zA5.con N), ((45, [.one, .one]), zAJ.con N), ((46, [.one, .one]), zAU.con N), ((87, [.one, .one]), zBX.con N), ((88, [.one, .one]), zBT.con N)], loops := [(26, loopCon N zAS.sk26 zAS.xs26 (fun {R} => zAS.l26 (R := R) N))], joins := [] }
theorem zAS.cons (N : Nat) : ConsOk Tryz.prog (zAS.cfg N).con := (consOk_cons (hb48) (zAN.ok N) (zAN.det N) (consOk_cons (hb85) (zA6.ok N) (zA6.det N) (consOk_cons (hb86) (zA5.ok N) (zA5.det N) (consOk_cons (hb45) (zAJ.ok N) (zAJ.det N) (consOk_cons (hb46) (zAU.ok N) (zAU.det N) (consOk_cons (hb87) (zBX.ok N) (zBX.det N) (consOk_cons (hb88) (zBT.ok N) (zBT.det N) consOk_nil)))))))
theorem zAS.h26 {R : Type} (N : Nat) (d : zAS.sk26.D) (kn : zAS.sk26.D → Option R) (kx : XD zAS.xs26 → Option R) : roundK (zAS.cfg N) N (nthLoop (fnBody Tryz.f71) 0) zAS.sk26 zAS.xs26 d kn kx = zAS.l26 N d kn kx := by kernel_rfl
theorem zAS.i26 (N : Nat) : LoopsOk Tryz.prog (zAS.cfg N) (nthLoop (fnBody Tryz.f71) 0) := loopsL (l := []) (by kernel_rfl) trivial
theorem zAS.o26 (N : Nat) : LoopOk Tryz.prog (nthLoop (fnBody Tryz.f71) 0) (loopCon N zAS.sk26 zAS.xs26 (fun {R} => zAS.l26 (R := R) N)) := loop_ok (g := zAS.cfg N) tys_ok (zAS.cons N) mixed (zAS.i26 N) (fun d kn kx => zAS.h26 N d kn kx)
theorem zAS.ls (N : Nat) : LoopsOk Tryz.prog (zAS.cfg N) (fnBody Tryz.f71) := loopsL (l := [nthLoop (fnBody Tryz.f71) 0]) (by kernel_rfl) ⟨loopOne (L0 := loopCon N zAS.sk26 zAS.xs26 (fun {R} => zAS.l26 (R := R) N)) (id := 26) (by kernel_rfl) (by kernel_rfl) (zAS.o26 N), trivial⟩
theorem zAS.q26 {R R' : Type} {N n : Nat} {d} {k} {g : R → Option R'} : bindF (loopP (zAS.l26 N) n d k) g = loopP (zAS.l26 N) n d fun e => bindF (k e) g := bindF_loopP (fun d kn kx => by simp only [zAS.l26, bindF_ifB, bindF_bindO, bindF_pure, bindF_none, bindF_onSum]) n d k
theorem zAS.b (N : Nat) (x0 : den s24) (x1 : den (.int .i64)) (x2 : den (.int .i64)) (x3 : den (.int .i64)) : body (zAS.cfg N) N Tryz.f71 [.one, .one, .one, .one] [.rd, .v, .v, .v] [(false, .imm)] [⟨s24, .imm, x0⟩, ⟨(.int .i64), .imm, x1⟩, ⟨(.int .i64), .imm, x2⟩, ⟨(.int .i64), .imm, x3⟩] (fun r i => some (r, i)) = bindO (zAS N x0 x1 x2 x3) fun r => some ([⟨(.int .i64), .imm, r⟩], []) := by
  show _ = bindF _ _
  conv => rhs; simp only [zAS, bindF_ifB, bindF_bindO, bindF_pure, bindF_none, bindF_onSum, zAS.q26]
  kernel_rfl
theorem zAS.ok (N : Nat) : ConOk Tryz.prog 71 [.one, .one, .one, .one] (zAS.con N) := ok4 (g := zAS.cfg N) (N := N) (res := [(false, .imm)]) tys_ok (zAS.cons N) mixed Tryz.func71 (zAS.ls N) rfl (zAS.b N)
theorem zAS.det (N : Nat) : ConDet (zAS.con N) := det4
def zAM.sk3 : Skel := ⟨.rp s24 :: (.pv (.int .i64) :: (dd 1 (.pv (.int .i64) :: (dd 5 (.pv (.int .i64) :: (dd 5 (.pv (.int .i64) :: (.pv (.int .i64) :: (dd 12 []))))))))), []⟩
def zAM.xs3 : List XS := [⟨.exit 0, [9], ⟨dd 9 (.pv (.int .i64) :: (dd 19 [])), []⟩⟩]
def zAM.con (N : Nat) : Con := { modes := [.rd, .v, .v, .v], ptrs := [false], fn := fn4 s24 .imm (.int .i64) .imm (.int .i64) .imm (.int .i64) .imm (zAM N) (fun r => [⟨(.int .i64), .imm, r⟩]) (fun r => []) }
def zAM.cfg (N : Nat) : Cfg := { ty := tys, keep := [22], flt := [], elm := elm0, live := [(3, [0, 1, 3, 9, 15, 16])], ord := [], con := [((71, [.one, .one, .one, .one]), zAS.con N)], loops := [(3, loopCon N zAM.sk3 zAM.xs3 (fun {R} => zAM.l3 (R := R) N))], joins := [] }
theorem zAM.cons (N : Nat) : ConsOk Tryz.prog (zAM.cfg N).con := (consOk_cons (hb71) (zAS.ok N) (zAS.det N) consOk_nil)
theorem zAM.h3 {R : Type} (N : Nat) (d : zAM.sk3.D) (kn : zAM.sk3.D → Option R) (kx : XD zAM.xs3 → Option R) : roundK (zAM.cfg N) N (nthLoop (fnBody Tryz.f44) 0) zAM.sk3 zAM.xs3 d kn kx = zAM.l3 N d kn kx := by kernel_rfl
theorem zAM.i3 (N : Nat) : LoopsOk Tryz.prog (zAM.cfg N) (nthLoop (fnBody Tryz.f44) 0) := loopsL (l := []) (by kernel_rfl) trivial
theorem zAM.o3 (N : Nat) : LoopOk Tryz.prog (nthLoop (fnBody Tryz.f44) 0) (loopCon N zAM.sk3 zAM.xs3 (fun {R} => zAM.l3 (R := R) N)) := loop_ok (g := zAM.cfg N) tys_ok (zAM.cons N) mixed (zAM.i3 N) (fun d kn kx => zAM.h3 N d kn kx)
theorem zAM.ls (N : Nat) : LoopsOk Tryz.prog (zAM.cfg N) (fnBody Tryz.f44) := loopsL (l := [nthLoop (fnBody Tryz.f44) 0]) (by kernel_rfl) ⟨loopOne (L0 := loopCon N zAM.sk3 zAM.xs3 (fun {R} => zAM.l3 (R := R) N)) (id := 3) (by kernel_rfl) (by kernel_rfl) (zAM.o3 N), trivial⟩
theorem zAM.q3 {R R' : Type} {N n : Nat} {d} {k} {g : R → Option R'} : bindF (loopP (zAM.l3 N) n d k) g = loopP (zAM.l3 N) n d fun e => bindF (k e) g := bindF_loopP (fun d kn kx => by simp only [zAM.l3, bindF_ifB, bindF_bindO, bindF_pure, bindF_none, bindF_onSum]) n d k
theorem zAM.b (N : Nat) (x0 : den s24) (x1 : den (.int .i64)) (x2 : den (.int .i64)) (x3 : den (.int .i64)) : body (zAM.cfg N) N Tryz.f44 [.one, .one, .one, .one] [.rd, .v, .v, .v] [(false, .imm)] [⟨s24, .imm, x0⟩, ⟨(.int .i64), .imm, x1⟩, ⟨(.int .i64), .imm, x2⟩, ⟨(.int .i64), .imm, x3⟩] (fun r i => some (r, i)) = bindO (zAM N x0 x1 x2 x3) fun r => some ([⟨(.int .i64), .imm, r⟩], []) := by
  show _ = bindF _ _
  conv => rhs; simp only [zAM, bindF_ifB, bindF_bindO, bindF_pure, bindF_none, bindF_onSum, zAM.q3]
  kernel_rfl
theorem zAM.ok (N : Nat) : ConOk Tryz.prog 44 [.one, .one, .one, .one] (zAM.con N) := ok4 (g := zAM.cfg N) (N := N) (res := [(false, .imm)]) tys_ok (zAM.cons N) mixed Tryz.func44 (zAM.ls N) rfl (zAM.b N)
theorem zAM.det (N : Nat) : ConDet (zAM.con N) := det4
set_option maxHeartbeats 4000000 in
set_option maxRecDepth 100000 in
theorem ins89_end (ad : Option Addr) (n c vb voff m vc : Nat) (w w1 : World) (r : Value) (hm : 0 < m) (hrun : (Builtin.append_ #[26, 26] 26 #[.slice ad n c, .slice (some ⟨vb, voff, none⟩) m vc]).run Tryz.prog w = .ok r w1) :
    Calls Tryz.prog 89 #[.slice ad n c, .int .i64 n, .slice (some ⟨vb, voff, none⟩) m vc] w fun e w' => e = .returned r ∧ w' = w1 := by
  have t0 := Tryz.underlying0; have a0 := Tryz.isAgg0; have z0 := Tryz.sizeOf0; have v0 := Tryz.zeroValue0
  have t3 := Tryz.underlying3; have a3 := Tryz.isAgg3; have z3 := Tryz.sizeOf3; have v3 := Tryz.zeroValue3
  have t4 := Tryz.underlying4; have a4 := Tryz.isAgg4; have z4 := Tryz.sizeOf4; have v4 := Tryz.zeroValue4
  have t23 := Tryz.underlying23; have a23 := Tryz.isAgg23; have z23 := Tryz.sizeOf23; have v23 := Tryz.zeroValue23
  have t26 := Tryz.underlying26; have a26 := Tryz.isAgg26; have z26 := Tryz.sizeOf26; have v26 := Tryz.zeroValue26
  have u0 := run_underlying Tryz.underlying0; have u3 := run_underlying Tryz.underlying3; have u4 := run_underlying Tryz.underlying4; have u23 := run_underlying Tryz.underlying23; have u26 := run_underlying Tryz.underlying26
  have hz1 : ¬ ((m : Int) = 0) := by omega
  go_enter Tryz.func89, Tryz.ntmps89
  cases ad with
  | none =>
    go_wp2_with (at_builtin; refine Lib.wpList_append_run _ rfl _ _ _ _ rfl _ _ rfl rfl _ _ hrun ?_)
    all_goals (go_ret; exact ⟨rfl, rfl⟩)
  | some a =>
    obtain ⟨ab, ao, asp⟩ := a
    go_wp2_with (at_builtin; refine Lib.wpList_append_run _ rfl _ _ _ _ rfl _ _ rfl rfl _ _ hrun ?_)
    all_goals (go_ret; exact ⟨rfl, rfl⟩)
set_option maxHeartbeats 4000000 in
set_option maxRecDepth 100000 in
theorem ins89_zero (ad va : Option Addr) (n c i vc : Nat) (w : World) (hi : i ≤ n) (hnc : n ≤ c) (hnil : ad = none → n = 0 ∧ c = 0) :
    Calls Tryz.prog 89 #[.slice ad n c, .int .i64 i, .slice va 0 vc] w fun e w' => e = .returned (.slice ad n c) ∧ w' = w := by
  have t0 := Tryz.underlying0; have a0 := Tryz.isAgg0; have z0 := Tryz.sizeOf0; have v0 := Tryz.zeroValue0
  have t3 := Tryz.underlying3; have a3 := Tryz.isAgg3; have z3 := Tryz.sizeOf3; have v3 := Tryz.zeroValue3
  have t4 := Tryz.underlying4; have a4 := Tryz.isAgg4; have z4 := Tryz.sizeOf4; have v4 := Tryz.zeroValue4
  have t23 := Tryz.underlying23; have a23 := Tryz.isAgg23; have z23 := Tryz.sizeOf23; have v23 := Tryz.zeroValue23
  have t26 := Tryz.underlying26; have a26 := Tryz.isAgg26; have z26 := Tryz.sizeOf26; have v26 := Tryz.zeroValue26
  have u0 := run_underlying Tryz.underlying0; have u3 := run_underlying Tryz.underlying3; have u4 := run_underlying Tryz.underlying4; have u23 := run_underlying Tryz.underlying23; have u26 := run_underlying Tryz.underlying26
  have hi2 : (i : Int) ≤ (n : Int) := by omega
  go_enter Tryz.func89, Tryz.ntmps89
  cases ad with
  | none =>
    obtain ⟨e1, e2⟩ := hnil rfl
    subst e1 e2
    have : i = 0 := by omega
    subst this
    go_wp2
    all_goals (go_ret; exact ⟨rfl, rfl⟩)
  | some a =>
    obtain ⟨ab, ao, asp⟩ := a
    go_wp2
    all_goals (go_ret; exact ⟨rfl, rfl⟩)
set_option maxHeartbeats 4000000 in
set_option maxRecDepth 100000 in
theorem ins89_shift (b off n c i vb voff m vc : Nat) (cs vs : List Value) (w : World) (hi : i < n) (hm : 0 < m) (hroom : n + m ≤ c) (hnm : n + m ≤ 68719476736) (hvd : vb = b → voff + m ≤ off ∨ off + c ≤ voff)
    (hcl : cs.length = n) (hvl : vs.length = m)
    (hcs : ∀ j v, cs[j]? = some v → w.cell? ⟨b, off + j, none⟩ = some v) (hsp : ∀ j, j < n + m → (w.cell? ⟨b, off + j, none⟩).isSome = true) (hfz : NF w b)
    (hvs : ∀ j v, vs[j]? = some v → w.cell? ⟨vb, voff + j, none⟩ = some v) (h1c : ∀ v ∈ cs, v.oneCell' = true) (h1v : ∀ v ∈ vs, v.oneCell' = true)
    (tA tB : TypeId) (kA kB : Nat) (hsa : w.shape? vb = some (tA, kA)) (hsb : w.shape? b = some (tB, kB)) (hkA : kA ≠ 0) (hkB : kB ≠ 0) :
    Calls Tryz.prog 89 #[.slice (some ⟨b, off, none⟩) n c, .int .i64 i, .slice (some ⟨vb, voff, none⟩) m vc] w fun e w' =>
      e = .returned (.slice (some ⟨b, off, none⟩) (n + m) c) ∧ w' = (w.drew.setCells b (off + (i + m)) (cs.drop i)).setCells b (off + i) vs := by
  have t0 := Tryz.underlying0; have a0 := Tryz.isAgg0; have z0 := Tryz.sizeOf0; have v0 := Tryz.zeroValue0
  have t3 := Tryz.underlying3; have a3 := Tryz.isAgg3; have z3 := Tryz.sizeOf3; have v3 := Tryz.zeroValue3
  have t4 := Tryz.underlying4; have a4 := Tryz.isAgg4; have z4 := Tryz.sizeOf4; have v4 := Tryz.zeroValue4
  have t23 := Tryz.underlying23; have a23 := Tryz.isAgg23; have z23 := Tryz.sizeOf23; have v23 := Tryz.zeroValue23
  have t26 := Tryz.underlying26; have a26 := Tryz.isAgg26; have z26 := Tryz.sizeOf26; have v26 := Tryz.zeroValue26
  have u0 := run_underlying Tryz.underlying0; have u3 := run_underlying Tryz.underlying3; have u4 := run_underlying Tryz.underlying4; have u23 := run_underlying Tryz.underlying23; have u26 := run_underlying Tryz.underlying26
  have hz1 : ¬ ((m : Int) = 0) := by omega
  have hz2 : ¬ ((i : Int) = (n : Int)) := by omega
  have hsz : (Tryz.prog.info? 23).map (·.size) = some 1 := by kernel_rfl
  have hov : ∀ lb cb, lb ≤ n - i → (callFunc 102 #[.slice (some ⟨vb, voff, none⟩) m vc, .slice (some ⟨b, off + (i + m), none⟩) lb cb]).run Tryz.prog w = .ok (.value (.bool false)) w := fun lb cb hlb => by
    rw [run_callFunc_extern Tryz.func102 (by kernel_rfl) (by kernel_rfl) (by kernel_rfl) (e := Extern.SlicesOverlaps.overlaps #[26, 26] #[4]) (by kernel_rfl),
      run_overlaps_nf w 26 4 23 Tryz.underlying26 1 Tryz.sizeOf23 vb voff b (off + (i + m)) m vc lb cb (fun e => by have := hvd e; omega) tA tB kA kB hsa hsb hkB hkA hfz]
    rfl
  have hdl : (cs.drop i).length = n - i := by rw [List.length_drop, hcl]
  have mixed := mixed
  have hw1 : IntKind.i64.wrap ((i : Int) + (m : Int)) = (i : Int) + (m : Int) := by rw [IntKind.wrap_i64]; omega
  have hb1 : (0 : Int) ≤ (i : Int) + (m : Int) := by omega
  have hin : i ≤ n := by omega
  have htn : ((i : Int) + (m : Int)).toNat = i + m := by omega
  have hb2 : ¬ (c = i + m) := by omega
  have hb3 : (i : Int) ≤ (n : Int) + (m : Int) := by omega
  have hb4 : ¬ (c = i) := by omega
  have hov2 : ∀ cb, (callFunc 102 #[.slice (some ⟨vb, voff, none⟩) m vc, .slice (some ⟨b, off + (i + m), none⟩) (n + m - (i + m)) cb]).run Tryz.prog w = .ok (.value (.bool false)) w := fun cb => hov _ _ (by omega)
  have hcp1 : ∀ ty dc sc, (Builtin.copy_ #[26, 26] ty #[.slice (some ⟨b, off + (i + m), none⟩) (n + m - (i + m)) dc, .slice (some ⟨b, off + i, none⟩) (n + m - i) sc]).run Tryz.prog w.drew = .ok (goInt (cs.drop i).length) (w.drew.setCells b (off + (i + m)) (cs.drop i)) := fun ty dc sc =>
    run_copy_cells w.drew _ _ ty 23 b (off + (i + m)) (n + m - (i + m)) dc ⟨b, off + i, none⟩ (n + m - i) sc (cs.drop i) Tryz.underlying26 hsz (by rw [hdl]; simp only [Nat.min_def]; split <;> omega)
      (fun j v hj => by rw [Addr.add_lit, Nat.add_assoc]; exact hcs (i + j) v (by rwa [List.getElem?_drop] at hj))
      (fun j hj => by rw [Nat.add_assoc]; exact hsp _ (by omega)) (fun j hj => by rw [Nat.add_assoc]; exact hfz _) (fun v hv => h1c v (List.mem_of_mem_drop hv))
  obtain ⟨W1, hW1⟩ : ∃ W1, W1 = w.drew.setCells b (off + (i + m)) (cs.drop i) := ⟨_, rfl⟩
  have hsp1 : ∀ k, k < n + m → (W1.cell? ⟨b, off + k, none⟩).isSome = true := fun k hk => by
    rw [hW1]
    exact isSome_setCells b _ _ _ (fun j hj => by rw [Nat.add_assoc]; exact hsp _ (by omega)) _ (hsp k hk)
  have hcp2 : ∀ (W : World), (∀ x, W.cell? x = W1.cell? x) → (∀ x, W.frozen? x = W1.frozen? x) → ∀ ty dc, (Builtin.copy_ #[26, 26] ty #[.slice (some ⟨b, off + i, none⟩) (n + m - i) dc, .slice (some ⟨vb, voff, none⟩) m vc]).run Tryz.prog W = .ok (goInt vs.length) (W.setCells b (off + i) vs) := fun W hWc hWf ty dc =>
    run_copy_cells W _ _ ty 23 b (off + i) (n + m - i) dc ⟨vb, voff, none⟩ m vc vs Tryz.underlying26 hsz (by rw [hvl]; simp only [Nat.min_def]; split <;> omega)
      (fun j v hj => by
        have hjm : j < m := by
          rcases Nat.lt_or_ge j vs.length with q | q
          · omega
          · rw [List.getElem?_eq_none q] at hj; cases hj
        rw [Addr.add_lit, hWc, hW1, World.cell?_setCells_out b _ _ _ _ (fun h _ => by have := hvd h; rw [hdl]; show voff + j < off + (i + m) ∨ off + (i + m) + (n - i) ≤ voff + j; omega)]
        exact hvs j v hj)
      (fun j hj => by rw [hWc, Nat.add_assoc]; exact hsp1 _ (by omega)) (fun j hj => by rw [hWf, hW1, World.frozen?_setCells, Nat.add_assoc]; exact hfz _) h1v
  rw [← hW1] at hcp1
  go_enter Tryz.func89, Tryz.ntmps89
  go_wp2_with (simp only [hov2])
  go_region_law_o (refine step_copy_runI rfl _ _ 26 26 rfl _ _ (by simp [Act.eval, Act.put]) (by simp [Act.eval, Act.put]) (hcp1 _ _ _) ?_)
  go_wp2_with (at_builtin; refine wpList_copy_runI _ rfl _ _ 26 26 rfl _ _ rfl rfl (hcp2 _ (fun _ => rfl) (fun _ => rfl) _ _) ?_)
  go_ret
  first | exact ⟨rfl, rfl⟩ | exact ⟨rfl, by rw [hW1]⟩
set_option maxHeartbeats 4000000 in
set_option maxRecDepth 100000 in
theorem ins89_grow (b off n c i vb voff m vc : Nat) (cs vs : List Value) (w : World) (hi : i < n) (hm : 0 < m) (hnc : n ≤ c) (hroom : c < n + m) (hbig : (n + m) * 24 ≤ 140737488355328)
    (hcl : cs.length = n) (hvl : vs.length = m)
    (hcs : ∀ j v, cs[j]? = some v → w.cell? ⟨b, off + j, none⟩ = some v)
    (hvs : ∀ j v, vs[j]? = some v → w.cell? ⟨vb, voff + j, none⟩ = some v) (h1c : ∀ v ∈ cs, v.oneCell' = true) (h1v : ∀ v ∈ vs, v.oneCell' = true) :
    Calls Tryz.prog 89 #[.slice (some ⟨b, off, none⟩) n c, .int .i64 i, .slice (some ⟨vb, voff, none⟩) m vc] w fun e w' =>
      e = .returned (.slice (some ⟨w.heap.size, 0, none⟩) (n + m) (grownCap w (n + m) c 23)) ∧
      w' = (((w.alloc (.cells ((cs.take i).toArray ++ Builtin.zeroCells (Value.slice none 0 0).cells (n + m - i) ++ Builtin.zeroCells (Value.slice none 0 0).cells (grownCap w (n + m) c 23 - (n + m))) 23)).drew.setCells w.heap.size i vs).drew).setCells w.heap.size (i + m) (cs.drop i) := by
  have t0 := Tryz.underlying0; have a0 := Tryz.isAgg0; have z0 := Tryz.sizeOf0; have v0 := Tryz.zeroValue0
  have t3 := Tryz.underlying3; have a3 := Tryz.isAgg3; have z3 := Tryz.sizeOf3; have v3 := Tryz.zeroValue3
  have t4 := Tryz.underlying4; have a4 := Tryz.isAgg4; have z4 := Tryz.sizeOf4; have v4 := Tryz.zeroValue4
  have t23 := Tryz.underlying23; have a23 := Tryz.isAgg23; have z23 := Tryz.sizeOf23; have v23 := Tryz.zeroValue23
  have t26 := Tryz.underlying26; have a26 := Tryz.isAgg26; have z26 := Tryz.sizeOf26; have v26 := Tryz.zeroValue26
  have u0 := run_underlying Tryz.underlying0; have u3 := run_underlying Tryz.underlying3; have u4 := run_underlying Tryz.underlying4; have u23 := run_underlying Tryz.underlying23; have u26 := run_underlying Tryz.underlying26
  have mixed := mixed
  obtain ⟨i0, hi0, hz0, hzs, hzb⟩ : ∃ i0, Tryz.prog.info? 23 = some i0 ∧ i0.zero = some (Value.slice none 0 0) ∧ i0.size = 1 ∧ i0.bytes = 24 := ⟨Tryz.t23, by kernel_rfl, rfl, rfl, rfl⟩
  have hz1 : ¬ ((m : Int) = 0) := by omega
  have hz2 : ¬ ((i : Int) = (n : Int)) := by omega
  have hz3 : (c : Int) < (n : Int) + (m : Int) := by omega
  have hsz : (Tryz.prog.info? 23).map (·.size) = some 1 := by rw [hi0]; simp [hzs]
  have hbw : b < w.heap.size := block_lt_of_cell (hcs 0 _ (List.getElem?_eq_getElem (by omega)))
  have hvw : vb < w.heap.size := block_lt_of_cell (hvs 0 _ (List.getElem?_eq_getElem (by omega)))
  have hkk : (n : Int) + (m : Int) - (i : Int) = ((n + m - i : Nat) : Int) := by omega
  have hik : i + (n + m - i) = n + m := by omega
  have hold : (Builtin.firstCells i0.size i (.slice (some ⟨b, off, none⟩) i c)).run Tryz.prog w.drew = .ok (cs.take i).toArray w.drew := by
    rw [hzs]
    exact run_firstCells_some w.drew 1 i ⟨b, off, none⟩ i c (cs.take i) (by rw [List.length_take]; omega) (fun j v hj => by
      rw [Addr.add_lit]
      rw [List.getElem?_take] at hj
      split at hj
      · exact hcs j v hj
      · cases hj)
  have hrz : ∀ ty, (Builtin.append_ #[26, 3] ty #[.slice (some ⟨b, off, none⟩) i c, .int .i64 ((n : Int) + (m : Int) - (i : Int))]).run Tryz.prog w =
      .ok (.slice (some ⟨w.heap.size, 0, none⟩) (n + m) (grownCap w (n + m) c 23)) (w.drew.alloc (.cells ((cs.take i).toArray ++ Builtin.zeroCells (Value.slice none 0 0).cells (n + m - i) ++ Builtin.zeroCells (Value.slice none 0 0).cells (grownCap w (n + m) c 23 - (n + m))) 23)) := fun ty => by
    have h := Lib.run_append_grow_zeros w 26 3 ty 23 i0 _ .i64 .i64 Tryz.underlying26 Tryz.underlying3 hi0 hz0 (some ⟨b, off, none⟩) i c (cs.take i) hold (n + m - i) (by omega) (by omega) (by omega) (by omega) (by rw [hzb]; omega) (by rw [hzb, hik]; exact growslice_fits hroom hbig)
    rw [hik] at h
    rw [hkk]
    exact h
  obtain ⟨G, hG⟩ : ∃ G, G = grownCap w (n + m) c 23 := ⟨_, rfl⟩
  obtain ⟨ROW, hROW⟩ : ∃ ROW : Array Value, ROW = (cs.take i).toArray ++ Builtin.zeroCells (Value.slice none 0 0).cells (n + m - i) ++ Builtin.zeroCells (Value.slice none 0 0).cells (G - (n + m)) := ⟨_, rfl⟩
  rw [← hG] at hrz ⊢
  rw [← hROW] at hrz ⊢
  have hRl : n + m ≤ ROW.size := by
    rw [hROW]
    simp [Builtin.zeroCells, Value.cells]
    omega
  obtain ⟨W1, hW1⟩ : ∃ W1, W1 = w.drew.alloc (.cells ROW 23) := ⟨_, rfl⟩
  rw [← hW1] at hrz
  have hN : ∀ j, j < n + m → (W1.cell? ⟨w.heap.size, j, none⟩).isSome = true := fun j hj => by
    rw [hW1, World.cell?_alloc_at (w := w.drew) ROW _ w.heap.size j rfl, Array.getElem?_eq_getElem (by omega)]; rfl
  have hNf : ∀ j, W1.frozen? ⟨w.heap.size, j, none⟩ = false := fun j => by rw [hW1]; exact World.frozen?_alloc_at (w := w.drew) ROW _ w.heap.size j rfl
  have hOb : ∀ j v, w.cell? ⟨b, j, none⟩ = some v → W1.cell? ⟨b, j, none⟩ = some v := fun j v h => by rw [hW1, World.cell?_alloc_past (w := w.drew) _ b j hbw]; exact h
  have hOv : ∀ j v, w.cell? ⟨vb, j, none⟩ = some v → W1.cell? ⟨vb, j, none⟩ = some v := fun j v h => by rw [hW1, World.cell?_alloc_past (w := w.drew) _ vb j hvw]; exact h
  have hcpA : ∀ (W : World), (∀ x, W.cell? x = W1.cell? x) → (∀ x, W.frozen? x = W1.frozen? x) → ∀ ty dc, (Builtin.copy_ #[26, 26] ty #[.slice (some ⟨w.heap.size, i, none⟩) (n + m - i) dc, .slice (some ⟨vb, voff, none⟩) m vc]).run Tryz.prog W = .ok (goInt vs.length) (W.setCells w.heap.size i vs) := fun W hWc hWf ty dc =>
    run_copy_cells W _ _ ty 23 w.heap.size i (n + m - i) dc ⟨vb, voff, none⟩ m vc vs Tryz.underlying26 hsz (by rw [hvl]; simp only [Nat.min_def]; split <;> omega)
      (fun j v hj => by rw [Addr.add_lit, hWc]; exact hOv _ v (hvs j v hj))
      (fun j hj => by rw [hWc]; exact hN _ (by omega)) (fun j hj => by rw [hWf]; exact hNf _) h1v
  have hGn : n + m ≤ G := by rw [hG]; exact grownCap_ge w _ _ _
  have hG63 : G ≤ 9223372036854775807 := by
    have := grownCap_le_maxLen w (n + m) c 23 (by unfold maxLen; omega)
    rw [← hG] at this
    unfold maxLen at this
    omega
  have hGi : ¬ (G = i) := by omega
  have hGim : ¬ (G = i + m) := by omega
  have hci : ¬ (c = i) := by omega
  have hbN : b ≠ w.heap.size := by omega
  have hdl : (cs.drop i).length = n - i := by rw [List.length_drop, hcl]
  have hcpB : ∀ (W : World), (∀ x, W.cell? x = (W1.setCells w.heap.size i vs).cell? x) → (∀ x, W.frozen? x = (W1.setCells w.heap.size i vs).frozen? x) → ∀ ty dc sc, (Builtin.copy_ #[26, 26] ty #[.slice (some ⟨w.heap.size, i + m, none⟩) (n + m - (i + m)) dc, .slice (some ⟨b, off + i, none⟩) (n - i) sc]).run Tryz.prog W = .ok (goInt (cs.drop i).length) (W.setCells w.heap.size (i + m) (cs.drop i)) := fun W hWc hWf ty dc sc =>
    run_copy_cells W _ _ ty 23 w.heap.size (i + m) (n + m - (i + m)) dc ⟨b, off + i, none⟩ (n - i) sc (cs.drop i) Tryz.underlying26 hsz (by rw [hdl]; simp only [Nat.min_def]; split <;> omega)
      (fun j v hj => by
        rw [Addr.add_lit, hWc, World.cell?_setCells_out _ _ _ _ _ (fun h _ => absurd h hbN), Nat.add_assoc]
        exact hOb _ v (hcs (i + j) v (by rwa [List.getElem?_drop] at hj)))
      (fun j hj => by rw [hWc]; exact isSome_setCells _ _ _ _ (fun t ht => hN _ (by omega)) _ (hN _ (by omega)))
      (fun j hj => by rw [hWf, World.frozen?_setCells]; exact hNf _) (fun v hv => h1c v (List.mem_of_mem_drop hv))
  subst hW1
  have hE1 : ∀ x, ((w.alloc (.cells ROW 23)).drew).cell? x = (w.drew.alloc (.cells ROW 23)).cell? x := fun x => rfl
  have hE2 : ∀ x, ((w.alloc (.cells ROW 23)).drew).frozen? x = (w.drew.alloc (.cells ROW 23)).frozen? x := fun x => rfl
  have hF1 : ∀ x, (((w.alloc (.cells ROW 23)).drew.setCells w.heap.size i vs).drew).cell? x = ((w.drew.alloc (.cells ROW 23)).setCells w.heap.size i vs).cell? x := fun x => rfl
  have hF2 : ∀ x, (((w.alloc (.cells ROW 23)).drew.setCells w.heap.size i vs).drew).frozen? x = ((w.drew.alloc (.cells ROW 23)).setCells w.heap.size i vs).frozen? x := fun x => rfl
  have hw1 : IntKind.i64.wrap ((i : Int) + (m : Int)) = (i : Int) + (m : Int) := by rw [IntKind.wrap_i64]; omega
  have hb1 : (0 : Int) ≤ (i : Int) + (m : Int) := by omega
  have hin : i ≤ n := by omega
  have htn : ((i : Int) + (m : Int)).toNat = i + m := by omega
  have hb3 : (i : Int) ≤ (n : Int) := by omega
  clear hkk hik hold hROW hG hRl
  go_enter Tryz.func89, Tryz.ntmps89
  go_wp2_with (first
    | (at_builtin; refine Lib.wpList_append_run _ rfl _ _ _ _ rfl _ _ rfl rfl _ _ (hrz _) ?_)
    | (at_builtin; refine wpList_copy_runI _ rfl _ _ 26 26 rfl _ _ rfl rfl (hcpA _ hE1 hE2 _ _) ?_)
    | (at_builtin; refine wpList_copy_runI _ rfl _ _ 26 26 rfl _ _ rfl rfl (hcpB _ (fun _ => rfl) (fun _ => rfl) _ _ _) ?_))
  go_region_law_o (refine step_copy_runI rfl _ _ 26 26 rfl (.slice (some ⟨w.heap.size, i + m, none⟩) (n + m - (i + m)) (G - (i + m))) (.slice (some ⟨b, off + i, none⟩) (n - i) (c - i)) (by simp [Act.eval, Act.put]) (by simp [Act.eval, Act.put]) (hcpB _ hF1 hF2 3 (G - (i + m)) (c - i)) ?_)
  go_wp2
  go_ret
  exact ⟨rfl, rfl⟩
theorem zBJ.runs : InsRuns Tryz.prog 89 26 23 := ⟨ins89_zero, ins89_end, ins89_shift, ins89_grow⟩
def zBJ.con (N : Nat) : Con := insCon (e := 23) (s := s23) (.own .imm) (zBJ N)
theorem zBJ.ok (N : Nat) : ConOk Tryz.prog 89 [.one, .one, .one] (zBJ.con N) := ins_conOk (tS := 26) rfl (by kernel_rfl) zBJ.runs (fun _ _ _ => rfl)
theorem zBJ.det (N : Nat) : ConDet (zBJ.con N) := ins_det
def zCR.con (N : Nat) : Con := { modes := [.v, .v], ptrs := [false], fn := fn2 s27 .imm s23 .imm (zCR N) (fun r => [⟨s27, (.pr (.own (.own .imm)) .imm), r⟩]) (fun r => []) }
def zCR.cfg (N : Nat) : Cfg := { ty := tys, keep := [8, 10, 12], flt := [], elm := elm0, live := [], ord := [], con := [((43, [.one]), zAT.con N), ((29, [.one]), zA8.con N), ((89, [.one, .one, .one]), zBJ.con N)], loops := [], joins := [] }
theorem zCR.cons (N : Nat) : ConsOk Tryz.prog (zCR.cfg N).con := (consOk_cons (hb43) (zAT.ok N) (zAT.det N) (consOk_cons (hb29) (zA8.ok N) (zA8.det N) (consOk_cons (hb89) (zBJ.ok N) (zBJ.det N) consOk_nil)))
theorem zCR.ls (N : Nat) : LoopsOk Tryz.prog (zCR.cfg N) (fnBody Tryz.f72) := loopsL (l := []) (by kernel_rfl) trivial
theorem zCR.b (N : Nat) (x0 : den s27) (x1 : den s23) : body (zCR.cfg N) N Tryz.f72 [.one, .one] [.v, .v] [(false, (.pr (.own (.own .imm)) .imm))] [⟨s27, .imm, x0⟩, ⟨s23, .imm, x1⟩] (fun r i => some (r, i)) = bindO (zCR N x0 x1) fun r => some ([⟨s27, (.pr (.own (.own .imm)) .imm), r⟩], []) := by
  show _ = bindF _ _
  conv => rhs; simp only [zCR, bindF_ifB, bindF_bindO, bindF_pure, bindF_none, bindF_onSum]
  kernel_rfl
theorem zCR.ok (N : Nat) : ConOk Tryz.prog 72 [.one, .one] (zCR.con N) := ok2 (g := zCR.cfg N) (N := N) (res := [(false, (.pr (.own (.own .imm)) .imm))]) tys_ok (zCR.cons N) mixed Tryz.func72 (zCR.ls N) rfl (zCR.b N)
theorem zCR.det (N : Nat) : ConDet (zCR.con N) := det2
end Go.AE.F
end
