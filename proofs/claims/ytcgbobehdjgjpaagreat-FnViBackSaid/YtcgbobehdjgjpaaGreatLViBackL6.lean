/- The printed functions are what the program comes to: contracts. -/
import Derived.Test.YtcgbobehdjgjpaaGreatLViBackL5
noncomputable section
namespace Go.AE.F
open Go.AE Go.Proofs
set_option maxRecDepth 100000
def zBD.con (N : Nat) : Con := { modes := [.v], ptrs := [false], fn := fn1 s23 .imm (zBD N) (fun r => [⟨s23, (.own .imm), r⟩]) (fun r => []) }
def zBD.cfg (N : Nat) : Cfg := { ty := tys, keep := [], flt := [], elm := elm0, live := [], ord := [], con := [], loops := [], joins := [] }
theorem zBD.cons (N : Nat) : ConsOk Tryz.prog (zBD.cfg N).con := consOk_nil
theorem zBD.ls (N : Nat) : LoopsOk Tryz.prog (zBD.cfg N) (fnBody Tryz.f75) := loopsL (l := []) (by kernel_rfl) trivial
theorem zBD.b (N : Nat) (x0 : den s23) : body (zBD.cfg N) N Tryz.f75 [.one] [.v] [(false, (.own .imm))] [⟨s23, .imm, x0⟩] (fun r i => some (r, i)) = bindO (zBD N x0) fun r => some ([⟨s23, (.own .imm), r⟩], []) := by
  show _ = bindF _ _
  conv => rhs; simp only [zBD, bindF_ifB, bindF_bindO, bindF_pure, bindF_none, bindF_onSum]
  kernel_rfl
theorem zBD.ok (N : Nat) : ConOk Tryz.prog 75 [.one] (zBD.con N) := ok1 (g := zBD.cfg N) (N := N) (res := [(false, (.own .imm))]) tys_ok (zBD.cons N) mixed Tryz.func75 (zBD.ls N) rfl (zBD.b N)
theorem zBD.det (N : Nat) : ConDet (zBD.con N) := det1
def zBW.con (N : Nat) : Con := { modes := [.v], ptrs := [false], fn := fn1 s24 .imm (zBW N) (fun r => [⟨s24, (.pr (.own .imm) .imm), r⟩]) (fun r => []) }
def zBW.cfg (N : Nat) : Cfg := { ty := tys, keep := [5], flt := [], elm := elm0, live := [], ord := [], con := [((75, [.one]), zBD.con N)], loops := [], joins := [] }
theorem zBW.cons (N : Nat) : ConsOk Tryz.prog (zBW.cfg N).con := (consOk_cons (hb75) (zBD.ok N) (zBD.det N) consOk_nil)
theorem zBW.ls (N : Nat) : LoopsOk Tryz.prog (zBW.cfg N) (fnBody Tryz.f52) := loopsL (l := []) (by kernel_rfl) trivial
theorem zBW.b (N : Nat) (x0 : den s24) : body (zBW.cfg N) N Tryz.f52 [.one] [.v] [(false, (.pr (.own .imm) .imm))] [⟨s24, .imm, x0⟩] (fun r i => some (r, i)) = bindO (zBW N x0) fun r => some ([⟨s24, (.pr (.own .imm) .imm), r⟩], []) := by
  show _ = bindF _ _
  conv => rhs; simp only [zBW, bindF_ifB, bindF_bindO, bindF_pure, bindF_none, bindF_onSum]
  kernel_rfl
theorem zBW.ok (N : Nat) : ConOk Tryz.prog 52 [.one] (zBW.con N) := ok1 (g := zBW.cfg N) (N := N) (res := [(false, (.pr (.own .imm) .imm))]) tys_ok (zBW.cons N) mixed Tryz.func52 (zBW.ls N) rfl (zBW.b N)
theorem zBW.det (N : Nat) : ConDet (zBW.con N) := det1
def zAL.sk3 : Skel := ⟨.pv s26 :: (dd 2 (.ov 50 [] :: (.pv (.int .i64) :: (dd 16 [])))), [⟨50, s26, (.own (.own .imm)), false, false⟩]⟩
def zAL.xs3 : List XS := [⟨.exit 0, [3], ⟨dd 3 (.ov 50 [] :: (dd 17 [])), [⟨50, s26, (.own (.own .imm)), false, false⟩]⟩⟩]
def zAL.con (N : Nat) : Con := { modes := [.v], ptrs := [false], fn := fn1 s26 .imm (zAL N) (fun r => [⟨s26, (.own (.own .imm)), r⟩]) (fun r => []) }
def zAL.cfg (N : Nat) : Cfg := { ty := tys, keep := [17], flt := [], elm := elm0, live := [(3, [0, 3, 4])], ord := [], con := [((75, [.one]), zBD.con N)], loops := [(3, loopCon N zAL.sk3 zAL.xs3 (fun {R} => zAL.l3 (R := R) N))], joins := [] }
theorem zAL.cons (N : Nat) : ConsOk Tryz.prog (zAL.cfg N).con := (consOk_cons (hb75) (zBD.ok N) (zBD.det N) consOk_nil)
theorem zAL.h3 {R : Type} (N : Nat) (d : zAL.sk3.D) (kn : zAL.sk3.D → Option R) (kx : XD zAL.xs3 → Option R) : roundK (zAL.cfg N) N (nthLoop (fnBody Tryz.f76) 0) zAL.sk3 zAL.xs3 d kn kx = zAL.l3 N d kn kx := by kernel_rfl
theorem zAL.i3 (N : Nat) : LoopsOk Tryz.prog (zAL.cfg N) (nthLoop (fnBody Tryz.f76) 0) := loopsL (l := []) (by kernel_rfl) trivial
theorem zAL.o3 (N : Nat) : LoopOk Tryz.prog (nthLoop (fnBody Tryz.f76) 0) (loopCon N zAL.sk3 zAL.xs3 (fun {R} => zAL.l3 (R := R) N)) := loop_ok (g := zAL.cfg N) tys_ok (zAL.cons N) mixed (zAL.i3 N) (fun d kn kx => zAL.h3 N d kn kx)
theorem zAL.ls (N : Nat) : LoopsOk Tryz.prog (zAL.cfg N) (fnBody Tryz.f76) := loopsL (l := [nthLoop (fnBody Tryz.f76) 0]) (by kernel_rfl) ⟨loopOne (L0 := loopCon N zAL.sk3 zAL.xs3 (fun {R} => zAL.l3 (R := R) N)) (id := 3) (by kernel_rfl) (by kernel_rfl) (zAL.o3 N), trivial⟩
theorem zAL.q3 {R R' : Type} {N n : Nat} {d} {k} {g : R → Option R'} : bindF (loopP (zAL.l3 N) n d k) g = loopP (zAL.l3 N) n d fun e => bindF (k e) g := bindF_loopP (fun d kn kx => by simp only [zAL.l3, bindF_ifB, bindF_bindO, bindF_pure, bindF_none, bindF_onSum]) n d k
theorem zAL.b (N : Nat) (x0 : den s26) : body (zAL.cfg N) N Tryz.f76 [.one] [.v] [(false, (.own (.own .imm)))] [⟨s26, .imm, x0⟩] (fun r i => some (r, i)) = bindO (zAL N x0) fun r => some ([⟨s26, (.own (.own .imm)), r⟩], []) := by
  show _ = bindF _ _
  conv => rhs; simp only [zAL, bindF_ifB, bindF_bindO, bindF_pure, bindF_none, bindF_onSum, zAL.q3]
  kernel_rfl
theorem zAL.ok (N : Nat) : ConOk Tryz.prog 76 [.one] (zAL.con N) := ok1 (g := zAL.cfg N) (N := N) (res := [(false, (.own (.own .imm)))]) tys_ok (zAL.cons N) mixed Tryz.func76 (zAL.ls N) rfl (zAL.b N)
theorem zAL.det (N : Nat) : ConDet (zAL.con N) := det1
def zBN.con (N : Nat) : Con := { modes := [.v], ptrs := [false], fn := fn1 s27 .imm (zBN N) (fun r => [⟨s27, (.pr (.own (.own .imm)) .imm), r⟩]) (fun r => []) }
def zBN.cfg (N : Nat) : Cfg := { ty := tys, keep := [5], flt := [], elm := elm0, live := [], ord := [(1, [0, 1, 3, 4, 2, 5, 6])], con := [((76, [.one]), zAL.con N)], loops := [], joins := [] }
theorem zBN.cons (N : Nat) : ConsOk Tryz.prog (zBN.cfg N).con := (consOk_cons (hb76) (zAL.ok N) (zAL.det N) consOk_nil)
theorem zBN.ls (N : Nat) : LoopsOk Tryz.prog (zBN.cfg N) (fnBody Tryz.f53) := loopsL (l := []) (by kernel_rfl) trivial
theorem zBN.b (N : Nat) (x0 : den s27) : body (zBN.cfg N) N Tryz.f53 [.one] [.v] [(false, (.pr (.own (.own .imm)) .imm))] [⟨s27, .imm, x0⟩] (fun r i => some (r, i)) = bindO (zBN N x0) fun r => some ([⟨s27, (.pr (.own (.own .imm)) .imm), r⟩], []) := by
  show _ = bindF _ _
  conv => rhs; simp only [zBN, bindF_ifB, bindF_bindO, bindF_pure, bindF_none, bindF_onSum]
  kernel_rfl
theorem zBN.ok (N : Nat) : ConOk Tryz.prog 53 [.one] (zBN.con N) := ok1 (g := zBN.cfg N) (N := N) (res := [(false, (.pr (.own (.own .imm)) .imm))]) tys_ok (zBN.cons N) mixed Tryz.func53 (zBN.ls N) rfl (zBN.b N)
theorem zBN.det (N : Nat) : ConDet (zBN.con N) := det1
def zAY.sk3 : Skel := ⟨.pv (.int .i64) :: (dd 2 (.ov 50 [] :: (.pv (.int .i64) :: (dd 15 [])))), [⟨50, s23, (.own .imm), false, false⟩]⟩
def zAY.xs3 : List XS := [⟨.exit 0, [], ⟨dd 20 [], []⟩⟩, ⟨.ret, [2], ⟨dd 2 (.pv (.int .i64) :: (dd 17 [])), []⟩⟩]
def zAY.con (N : Nat) : Con := { modes := [.v], ptrs := [false], fn := fn1 (.int .i64) .imm (zAY N) (fun r => [⟨(.int .i64), .imm, r⟩]) (fun r => []) }
def zAY.cfg (N : Nat) : Cfg := { ty := tys, keep := [], flt := [], elm := elm0, live := [(3, [0, 3, 4])], ord := [], con := [], loops := [(3, loopCon N zAY.sk3 zAY.xs3 (fun {R} => zAY.l3 (R := R) N))], joins := [] }
theorem zAY.cons (N : Nat) : ConsOk Tryz.prog (zAY.cfg N).con := consOk_nil
theorem zAY.h3 {R : Type} (N : Nat) (d : zAY.sk3.D) (kn : zAY.sk3.D → Option R) (kx : XD zAY.xs3 → Option R) : roundK (zAY.cfg N) N (nthLoop (fnBody Tryz.f77) 0) zAY.sk3 zAY.xs3 d kn kx = zAY.l3 N d kn kx := by kernel_rfl
theorem zAY.i3 (N : Nat) : LoopsOk Tryz.prog (zAY.cfg N) (nthLoop (fnBody Tryz.f77) 0) := loopsL (l := []) (by kernel_rfl) trivial
theorem zAY.o3 (N : Nat) : LoopOk Tryz.prog (nthLoop (fnBody Tryz.f77) 0) (loopCon N zAY.sk3 zAY.xs3 (fun {R} => zAY.l3 (R := R) N)) := loop_ok (g := zAY.cfg N) tys_ok (zAY.cons N) mixed (zAY.i3 N) (fun d kn kx => zAY.h3 N d kn kx)
theorem zAY.ls (N : Nat) : LoopsOk Tryz.prog (zAY.cfg N) (fnBody Tryz.f77) := loopsL (l := [nthLoop (fnBody Tryz.f77) 0]) (by kernel_rfl) ⟨loopOne (L0 := loopCon N zAY.sk3 zAY.xs3 (fun {R} => zAY.l3 (R := R) N)) (id := 3) (by kernel_rfl) (by kernel_rfl) (zAY.o3 N), trivial⟩
theorem zAY.q3 {R R' : Type} {N n : Nat} {d} {k} {g : R → Option R'} : bindF (loopP (zAY.l3 N) n d k) g = loopP (zAY.l3 N) n d fun e => bindF (k e) g := bindF_loopP (fun d kn kx => by simp only [zAY.l3, bindF_ifB, bindF_bindO, bindF_pure, bindF_none, bindF_onSum]) n d k
theorem zAY.b (N : Nat) (x0 : den (.int .i64)) : body (zAY.cfg N) N Tryz.f77 [.one] [.v] [(false, .imm)] [⟨(.int .i64), .imm, x0⟩] (fun r i => some (r, i)) = bindO (zAY N x0) fun r => some ([⟨(.int .i64), .imm, r⟩], []) := by
  show _ = bindF _ _
  conv => rhs; simp only [zAY, bindF_ifB, bindF_bindO, bindF_pure, bindF_none, bindF_onSum, zAY.q3]
  kernel_rfl
theorem zAY.ok (N : Nat) : ConOk Tryz.prog 77 [.one] (zAY.con N) := ok1 (g := zAY.cfg N) (N := N) (res := [(false, .imm)]) tys_ok (zAY.cons N) mixed Tryz.func77 (zAY.ls N) rfl (zAY.b N)
theorem zAY.det (N : Nat) : ConDet (zAY.con N) := det1
def zAK.sk1 : Skel := ⟨dd 1 (.pv (.int .i64) :: (.ptr 50 [] :: (dd 16 []))), [⟨50, s24, .imm, true, false⟩]⟩
def zAK.xs1 : List XS := [⟨.exit 0, [1], ⟨dd 1 (.pv (.int .i64) :: (dd 17 [])), []⟩⟩]
def zAK.con (N : Nat) : Con := { modes := [.v, .v], ptrs := [false], fn := fn2 s24 .imm (.int .i64) .imm (zAK N) (fun r => [⟨(.int .i64), .imm, r⟩]) (fun r => []) }
def zAK.cfg (N : Nat) : Cfg := { ty := tys, keep := [], flt := [], elm := elm0, live := [(1, [1, 2, 8, 9, 10, 11, 12, 13, 14])], ord := [], con := [], loops := [(1, loopCon N zAK.sk1 zAK.xs1 (fun {R} => zAK.l1 (R := R) N))], joins := [] }
theorem zAK.cons (N : Nat) : ConsOk Tryz.prog (zAK.cfg N).con := consOk_nil
theorem zAK.h1 {R : Type} (N : Nat) (d : zAK.sk1.D) (kn : zAK.sk1.D → Option R) (kx : XD zAK.xs1 → Option R) : roundK (zAK.cfg N) N (nthLoop (fnBody Tryz.f60) 0) zAK.sk1 zAK.xs1 d kn kx = zAK.l1 N d kn kx := by kernel_rfl
theorem zAK.i1 (N : Nat) : LoopsOk Tryz.prog (zAK.cfg N) (nthLoop (fnBody Tryz.f60) 0) := loopsL (l := []) (by kernel_rfl) trivial
theorem zAK.o1 (N : Nat) : LoopOk Tryz.prog (nthLoop (fnBody Tryz.f60) 0) (loopCon N zAK.sk1 zAK.xs1 (fun {R} => zAK.l1 (R := R) N)) := loop_ok (g := zAK.cfg N) tys_ok (zAK.cons N) mixed (zAK.i1 N) (fun d kn kx => zAK.h1 N d kn kx)
theorem zAK.ls (N : Nat) : LoopsOk Tryz.prog (zAK.cfg N) (fnBody Tryz.f60) := loopsL (l := [nthLoop (fnBody Tryz.f60) 0]) (by kernel_rfl) ⟨loopOne (L0 := loopCon N zAK.sk1 zAK.xs1 (fun {R} => zAK.l1 (R := R) N)) (id := 1) (by kernel_rfl) (by kernel_rfl) (zAK.o1 N), trivial⟩
theorem zAK.q1 {R R' : Type} {N n : Nat} {d} {k} {g : R → Option R'} : bindF (loopP (zAK.l1 N) n d k) g = loopP (zAK.l1 N) n d fun e => bindF (k e) g := bindF_loopP (fun d kn kx => by simp only [zAK.l1, bindF_ifB, bindF_bindO, bindF_pure, bindF_none, bindF_onSum]) n d k
theorem zAK.b (N : Nat) (x0 : den s24) (x1 : den (.int .i64)) : body (zAK.cfg N) N Tryz.f60 [.one, .one] [.v, .v] [(false, .imm)] [⟨s24, .imm, x0⟩, ⟨(.int .i64), .imm, x1⟩] (fun r i => some (r, i)) = bindO (zAK N x0 x1) fun r => some ([⟨(.int .i64), .imm, r⟩], []) := by
  show _ = bindF _ _
  conv => rhs; simp only [zAK, bindF_ifB, bindF_bindO, bindF_pure, bindF_none, bindF_onSum, zAK.q1]
  kernel_rfl
theorem zAK.ok (N : Nat) : ConOk Tryz.prog 60 [.one, .one] (zAK.con N) := ok2 (g := zAK.cfg N) (N := N) (res := [(false, .imm)]) tys_ok (zAK.cons N) mixed Tryz.func60 (zAK.ls N) rfl (zAK.b N)
theorem zAK.det (N : Nat) : ConDet (zAK.con N) := det2
def zAV.sk1 : Skel := ⟨dd 1 (.pv (.int .i64) :: (.ptr 50 [] :: (dd 18 []))), [⟨50, s24, .imm, true, false⟩]⟩
def zAV.xs1 : List XS := [⟨.exit 0, [1], ⟨dd 1 (.pv (.int .i64) :: (dd 19 [])), []⟩⟩]
def zAV.con (N : Nat) : Con := { modes := [.v, .v], ptrs := [false], fn := fn2 s24 .imm (.int .i64) .imm (zAV N) (fun r => [⟨(.int .i64), .imm, r⟩]) (fun r => []) }
def zAV.cfg (N : Nat) : Cfg := { ty := tys, keep := [], flt := [], elm := elm0, live := [(1, [1, 2, 11, 12, 13, 14, 15, 16])], ord := [], con := [], loops := [(1, loopCon N zAV.sk1 zAV.xs1 (fun {R} => zAV.l1 (R := R) N))], joins := [] }
theorem zAV.cons (N : Nat) : ConsOk Tryz.prog (zAV.cfg N).con := consOk_nil
theorem zAV.h1 {R : Type} (N : Nat) (d : zAV.sk1.D) (kn : zAV.sk1.D → Option R) (kx : XD zAV.xs1 → Option R) : roundK (zAV.cfg N) N (nthLoop (fnBody Tryz.f59) 0) zAV.sk1 zAV.xs1 d kn kx = zAV.l1 N d kn kx := by kernel_rfl
theorem zAV.i1 (N : Nat) : LoopsOk Tryz.prog (zAV.cfg N) (nthLoop (fnBody Tryz.f59) 0) := loopsL (l := []) (by kernel_rfl) trivial
theorem zAV.o1 (N : Nat) : LoopOk Tryz.prog (nthLoop (fnBody Tryz.f59) 0) (loopCon N zAV.sk1 zAV.xs1 (fun {R} => zAV.l1 (R := R) N)) := loop_ok (g := zAV.cfg N) tys_ok (zAV.cons N) mixed (zAV.i1 N) (fun d kn kx => zAV.h1 N d kn kx)
theorem zAV.ls (N : Nat) : LoopsOk Tryz.prog (zAV.cfg N) (fnBody Tryz.f59) := loopsL (l := [nthLoop (fnBody Tryz.f59) 0]) (by kernel_rfl) ⟨loopOne (L0 := loopCon N zAV.sk1 zAV.xs1 (fun {R} => zAV.l1 (R := R) N)) (id := 1) (by kernel_rfl) (by kernel_rfl) (zAV.o1 N), trivial⟩
theorem zAV.q1 {R R' : Type} {N n : Nat} {d} {k} {g : R → Option R'} : bindF (loopP (zAV.l1 N) n d k) g = loopP (zAV.l1 N) n d fun e => bindF (k e) g := bindF_loopP (fun d kn kx => by simp only [zAV.l1, bindF_ifB, bindF_bindO, bindF_pure, bindF_none, bindF_onSum]) n d k
theorem zAV.b (N : Nat) (x0 : den s24) (x1 : den (.int .i64)) : body (zAV.cfg N) N Tryz.f59 [.one, .one] [.v, .v] [(false, .imm)] [⟨s24, .imm, x0⟩, ⟨(.int .i64), .imm, x1⟩] (fun r i => some (r, i)) = bindO (zAV N x0 x1) fun r => some ([⟨(.int .i64), .imm, r⟩], []) := by
  show _ = bindF _ _
  conv => rhs; simp only [zAV, bindF_ifB, bindF_bindO, bindF_pure, bindF_none, bindF_onSum, zAV.q1]
  kernel_rfl
theorem zAV.ok (N : Nat) : ConOk Tryz.prog 59 [.one, .one] (zAV.con N) := ok2 (g := zAV.cfg N) (N := N) (res := [(false, .imm)]) tys_ok (zAV.cons N) mixed Tryz.func59 (zAV.ls N) rfl (zAV.b N)
theorem zAV.det (N : Nat) : ConDet (zAV.con N) := det2
def zAX.sk3 : Skel := ⟨dd 1 (.pv (.int .i64) :: (.ptr 50 [] :: (dd 1 (.ptr 51 [] :: (.pv (.int .i64) :: (.pv (.int .i64) :: (dd 20 []))))))), [⟨50, s24, .imm, true, false⟩, ⟨51, s101, .imm, true, false⟩]⟩
def zAX.xs3 : List XS := [⟨.exit 0, [1, 2, 4, 5], ⟨dd 1 (.pv (.int .i64) :: (.ptr 50 [] :: (dd 1 (.ptr 51 [] :: (.pv (.int .i64) :: (dd 21 [])))))), [⟨50, s24, .imm, true, false⟩, ⟨51, s101, .imm, true, false⟩]⟩⟩]
def zAX.con (N : Nat) : Con := { modes := [.v, .v], ptrs := [false], fn := fn2 s24 .imm (.int .i64) .imm (zAX N) (fun r => [⟨s101, .imm, r⟩]) (fun r => []) }
def zAX.cfg (N : Nat) : Cfg := { ty := tys, keep := [24], flt := [], elm := elm0, live := [(3, [1, 2, 4, 5, 6])], ord := [], con := [((60, [.one, .one]), zAK.con N)], loops := [(3, loopCon N zAX.sk3 zAX.xs3 (fun {R} => zAX.l3 (R := R) N))], joins := [(4, [⟨.normal, [1, 2, 4, 5, 6], ⟨dd 1 (.pv (.int .i64) :: (.ptr 50 [] :: (dd 1 (.ptr 51 [] :: (.pv (.int .i64) :: (.pv (.int .i64) :: (dd 20 []))))))), [⟨50, s24, .imm, true, false⟩, ⟨51, s101, .imm, true, false⟩]⟩⟩])] }
theorem zAX.cons (N : Nat) : ConsOk Tryz.prog (zAX.cfg N).con := (consOk_cons (hb60) (zAK.ok N) (zAK.det N) consOk_nil)
theorem zAX.h3 {R : Type} (N : Nat) (d : zAX.sk3.D) (kn : zAX.sk3.D → Option R) (kx : XD zAX.xs3 → Option R) : roundK (zAX.cfg N) N (nthLoop (fnBody Tryz.f92) 0) zAX.sk3 zAX.xs3 d kn kx = zAX.l3 N d kn kx := by kernel_rfl
theorem zAX.i3 (N : Nat) : LoopsOk Tryz.prog (zAX.cfg N) (nthLoop (fnBody Tryz.f92) 0) := loopsL (l := []) (by kernel_rfl) trivial
theorem zAX.o3 (N : Nat) : LoopOk Tryz.prog (nthLoop (fnBody Tryz.f92) 0) (loopCon N zAX.sk3 zAX.xs3 (fun {R} => zAX.l3 (R := R) N)) := loop_ok (g := zAX.cfg N) tys_ok (zAX.cons N) mixed (zAX.i3 N) (fun d kn kx => zAX.h3 N d kn kx)
theorem zAX.ls (N : Nat) : LoopsOk Tryz.prog (zAX.cfg N) (fnBody Tryz.f92) := loopsL (l := [nthLoop (fnBody Tryz.f92) 0]) (by kernel_rfl) ⟨loopOne (L0 := loopCon N zAX.sk3 zAX.xs3 (fun {R} => zAX.l3 (R := R) N)) (id := 3) (by kernel_rfl) (by kernel_rfl) (zAX.o3 N), trivial⟩
theorem zAX.q3 {R R' : Type} {N n : Nat} {d} {k} {g : R → Option R'} : bindF (loopP (zAX.l3 N) n d k) g = loopP (zAX.l3 N) n d fun e => bindF (k e) g := bindF_loopP (fun d kn kx => by simp only [zAX.l3, bindF_ifB, bindF_bindO, bindF_pure, bindF_none, bindF_onSum]) n d k
theorem zAX.b (N : Nat) (x0 : den s24) (x1 : den (.int .i64)) : body (zAX.cfg N) N Tryz.f92 [.one, .one] [.v, .v] [(false, .imm)] [⟨s24, .imm, x0⟩, ⟨(.int .i64), .imm, x1⟩] (fun r i => some (r, i)) = bindO (zAX N x0 x1) fun r => some ([⟨s101, .imm, r⟩], []) := by
  show _ = bindF _ _
  conv => rhs; simp only [zAX, bindF_ifB, bindF_bindO, bindF_pure, bindF_none, bindF_onSum, zAX.q3]
  kernel_rfl
theorem zAX.ok (N : Nat) : ConOk Tryz.prog 92 [.one, .one] (zAX.con N) := ok2 (g := zAX.cfg N) (N := N) (res := [(false, .imm)]) tys_ok (zAX.cons N) mixed Tryz.func92 (zAX.ls N) rfl (zAX.b N)
theorem zAX.det (N : Nat) : ConDet (zAX.con N) := det2
def zC3.con (N : Nat) : Con := { modes := [.v], ptrs := [false], fn := fn1 s24 .imm (zC3 N) (fun r => [⟨(.int .i64), .imm, r⟩]) (fun r => []) }
def zC3.cfg (N : Nat) : Cfg := { ty := tys, keep := [4, 10], flt := [], elm := elm0, live := [], ord := [], con := [((5, [.one]), zB6.con N), ((92, [.one, .one]), zAX.con N)], loops := [], joins := [] }
theorem zC3.cons (N : Nat) : ConsOk Tryz.prog (zC3.cfg N).con := (consOk_cons (hb5) (zB6.ok N) (zB6.det N) (consOk_cons (hb92) (zAX.ok N) (zAX.det N) consOk_nil))
theorem zC3.ls (N : Nat) : LoopsOk Tryz.prog (zC3.cfg N) (fnBody Tryz.f105) := loopsL (l := []) (by kernel_rfl) trivial
theorem zC3.b (N : Nat) (x0 : den s24) : body (zC3.cfg N) N Tryz.f105 [.one] [.v] [(false, .imm)] [⟨s24, .imm, x0⟩] (fun r i => some (r, i)) = bindO (zC3 N x0) fun r => some ([⟨(.int .i64), .imm, r⟩], []) := by
  show _ = bindF _ _
  conv => rhs; simp only [zC3, bindF_ifB, bindF_bindO, bindF_pure, bindF_none, bindF_onSum]
  kernel_rfl
theorem zC3.ok (N : Nat) : ConOk Tryz.prog 105 [.one] (zC3.con N) := ok1 (g := zC3.cfg N) (N := N) (res := [(false, .imm)]) tys_ok (zC3.cons N) mixed Tryz.func105 (zC3.ls N) rfl (zC3.b N)
theorem zC3.det (N : Nat) : ConDet (zC3.con N) := det1
def zBL.con (N : Nat) : Con := { modes := [.v, .v], ptrs := [false], fn := fn2 (.int .i64) .imm (.int .i64) .imm (zBL N) (fun r => [⟨(.int .i64), .imm, r⟩]) (fun r => []) }
def zBL.cfg (N : Nat) : Cfg := { ty := tys, keep := [], flt := [], elm := elm0, live := [], ord := [], con := [], loops := [], joins := [] }
theorem zBL.cons (N : Nat) : ConsOk Tryz.prog (zBL.cfg N).con := consOk_nil
theorem zBL.ls (N : Nat) : LoopsOk Tryz.prog (zBL.cfg N) (fnBody Tryz.f56) := loopsL (l := []) (by kernel_rfl) trivial
theorem zBL.b (N : Nat) (x0 : den (.int .i64)) (x1 : den (.int .i64)) : body (zBL.cfg N) N Tryz.f56 [.one, .one] [.v, .v] [(false, .imm)] [⟨(.int .i64), .imm, x0⟩, ⟨(.int .i64), .imm, x1⟩] (fun r i => some (r, i)) = bindO (zBL N x0 x1) fun r => some ([⟨(.int .i64), .imm, r⟩], []) := by
  show _ = bindF _ _
  conv => rhs; simp only [zBL, bindF_ifB, bindF_bindO, bindF_pure, bindF_none, bindF_onSum]
  kernel_rfl
theorem zBL.ok (N : Nat) : ConOk Tryz.prog 56 [.one, .one] (zBL.con N) := ok2 (g := zBL.cfg N) (N := N) (res := [(false, .imm)]) tys_ok (zBL.cons N) mixed Tryz.func56 (zBL.ls N) rfl (zBL.b N)
theorem zBL.det (N : Nat) : ConDet (zBL.con N) := det2
def zAZ.sk5 : Skel := ⟨dd 2 (.ptr 50 [] :: (.ptr 51 [] :: (dd 1 (.pv (.int .i64) :: (.pv (.int .i64) :: (dd 37 [])))))), [⟨50, s24, .imm, true, false⟩, ⟨51, s101, .imm, true, false⟩]⟩
def zAZ.xs5 : List XS := [⟨.exit 0, [2, 3, 6], ⟨dd 2 (.ptr 50 [] :: (.ptr 51 [] :: (dd 2 (.pv (.int .i64) :: (dd 37 []))))), [⟨50, s24, .imm, true, false⟩, ⟨51, s101, .imm, true, false⟩]⟩⟩]
def zAZ.con (N : Nat) : Con := { modes := [.v, .v], ptrs := [false], fn := fn2 s24 .imm s101 .imm (zAZ N) (fun r => [⟨(.int .i64), .imm, r⟩]) (fun r => []) }
def zAZ.cfg (N : Nat) : Cfg := { ty := tys, keep := [9, 14, 16, 17, 24, 28], flt := [], elm := elm0, live := [(5, [2, 3, 5, 6])], ord := [(3, [0, 1, 2, 3, 4, 5, 6, 7])], con := [((5, [.one]), zB6.con N), ((105, [.one]), zC3.con N), ((56, [.one, .one]), zBL.con N), ((51, [.one, .one]), zBR.con N), ((59, [.one, .one]), zAV.con N)], loops := [(5, loopCon N zAZ.sk5 zAZ.xs5 (fun {R} => zAZ.l5 (R := R) N))], joins := [] }
theorem zAZ.cons (N : Nat) : ConsOk Tryz.prog (zAZ.cfg N).con := (consOk_cons (hb5) (zB6.ok N) (zB6.det N) (consOk_cons (hb105) (zC3.ok N) (zC3.det N) (consOk_cons (hb56) (zBL.ok N) (zBL.det N) (consOk_cons (hb51) (zBR.ok N) (zBR.det N) (consOk_cons (hb59) (zAV.ok N) (zAV.det N) consOk_nil)))))
theorem zAZ.h5 {R : Type} (N : Nat) (d : zAZ.sk5.D) (kn : zAZ.sk5.D → Option R) (kx : XD zAZ.xs5 → Option R) : roundK (zAZ.cfg N) N (nthLoop (fnBody Tryz.f93) 0) zAZ.sk5 zAZ.xs5 d kn kx = zAZ.l5 N d kn kx := by kernel_rfl
theorem zAZ.i5 (N : Nat) : LoopsOk Tryz.prog (zAZ.cfg N) (nthLoop (fnBody Tryz.f93) 0) := loopsL (l := []) (by kernel_rfl) trivial
theorem zAZ.o5 (N : Nat) : LoopOk Tryz.prog (nthLoop (fnBody Tryz.f93) 0) (loopCon N zAZ.sk5 zAZ.xs5 (fun {R} => zAZ.l5 (R := R) N)) := loop_ok (g := zAZ.cfg N) tys_ok (zAZ.cons N) mixed (zAZ.i5 N) (fun d kn kx => zAZ.h5 N d kn kx)
theorem zAZ.ls (N : Nat) : LoopsOk Tryz.prog (zAZ.cfg N) (fnBody Tryz.f93) := loopsL (l := [nthLoop (fnBody Tryz.f93) 0]) (by kernel_rfl) ⟨loopOne (L0 := loopCon N zAZ.sk5 zAZ.xs5 (fun {R} => zAZ.l5 (R := R) N)) (id := 5) (by kernel_rfl) (by kernel_rfl) (zAZ.o5 N), trivial⟩
theorem zAZ.q5 {R R' : Type} {N n : Nat} {d} {k} {g : R → Option R'} : bindF (loopP (zAZ.l5 N) n d k) g = loopP (zAZ.l5 N) n d fun e => bindF (k e) g := bindF_loopP (fun d kn kx => by simp only [zAZ.l5, bindF_ifB, bindF_bindO, bindF_pure, bindF_none, bindF_onSum]) n d k
theorem zAZ.b (N : Nat) (x0 : den s24) (x1 : den s101) : body (zAZ.cfg N) N Tryz.f93 [.one, .one] [.v, .v] [(false, .imm)] [⟨s24, .imm, x0⟩, ⟨s101, .imm, x1⟩] (fun r i => some (r, i)) = bindO (zAZ N x0 x1) fun r => some ([⟨(.int .i64), .imm, r⟩], []) := by
  show _ = bindF _ _
  conv => rhs; simp only [zAZ, bindF_ifB, bindF_bindO, bindF_pure, bindF_none, bindF_onSum, zAZ.q5]
  kernel_rfl
theorem zAZ.ok (N : Nat) : ConOk Tryz.prog 93 [.one, .one] (zAZ.con N) := ok2 (g := zAZ.cfg N) (N := N) (res := [(false, .imm)]) tys_ok (zAZ.cons N) mixed Tryz.func93 (zAZ.ls N) rfl (zAZ.b N)
theorem zAZ.det (N : Nat) : ConDet (zAZ.con N) := det2
def zC6.con (N : Nat) : Con := { modes := [.v], ptrs := [false], fn := fn1 (.int .i64) .imm (zC6 N) (fun r => [⟨(.int .i64), .imm, r⟩]) (fun r => []) }
def zC6.cfg (N : Nat) : Cfg := { ty := tys, keep := [4], flt := [], elm := elm0, live := [], ord := [], con := [((32, [.one]), zBV.con N)], loops := [], joins := [] }
theorem zC6.cons (N : Nat) : ConsOk Tryz.prog (zC6.cfg N).con := (consOk_cons (hb32) (zBV.ok N) (zBV.det N) consOk_nil)
theorem zC6.ls (N : Nat) : LoopsOk Tryz.prog (zC6.cfg N) (fnBody Tryz.f106) := loopsL (l := []) (by kernel_rfl) trivial
theorem zC6.b (N : Nat) (x0 : den (.int .i64)) : body (zC6.cfg N) N Tryz.f106 [.one] [.v] [(false, .imm)] [⟨(.int .i64), .imm, x0⟩] (fun r i => some (r, i)) = bindO (zC6 N x0) fun r => some ([⟨(.int .i64), .imm, r⟩], []) := by
  show _ = bindF _ _
  conv => rhs; simp only [zC6, bindF_ifB, bindF_bindO, bindF_pure, bindF_none, bindF_onSum]
  kernel_rfl
theorem zC6.ok (N : Nat) : ConOk Tryz.prog 106 [.one] (zC6.con N) := ok1 (g := zC6.cfg N) (N := N) (res := [(false, .imm)]) tys_ok (zC6.cons N) mixed Tryz.func106 (zC6.ls N) rfl (zC6.b N)
theorem zC6.det (N : Nat) : ConDet (zC6.con N) := det1
end Go.AE.F
end
