/- The printed functions are what the program comes to: contracts. -/
import Derived.Test.YtjidbkkiehifaaaGreatLViF8
import Derived.Test.YtjidbkkiehifaaaGreatLViT
noncomputable section
namespace Go.AE.F
open Go.AE Go.Proofs
set_option maxRecDepth 100000
def zAQ.sk3 : Skel := ⟨.pv s22 :: (dd 2 (.ptr 50 [] :: (.pv (.int .i64) :: (dd 42 [])))), [⟨50, s46, .imm, true, false⟩]⟩
def zAQ.xs3 : List XS := [⟨.exit 0, [0, 3], ⟨.pv s22 :: (dd 2 (.ptr 50 [] :: (dd 43 []))), [⟨50, s46, .imm, true, false⟩]⟩⟩]
def zAQ.con (N : Nat) : Con := { modes := [.v], ptrs := [true], fn := fn1 s22 .imm (zAQ N) (fun r => [⟨s46, .imm, r⟩]) (fun r => []) }
def zAQ.cfg (N : Nat) : Cfg := { ty := tys, keep := [], flt := [], elm := elm0, live := [(3, [0, 3, 4, 13, 14])], ord := [(5, [0, 1, 2, 3, 4, 5, 6, 7, 8, 9, 10, 11, 12, 13, 14])], con := [], loops := [(3, loopCon N zAQ.sk3 zAQ.xs3 (fun {R} => zAQ.l3 (R := R) N))], joins := [] }
theorem zAQ.cons (N : Nat) : ConsOk Tryz.prog (zAQ.cfg N).con := consOk_nil
theorem zAQ.h3 {R : Type} (N : Nat) (d : zAQ.sk3.D) (kn : zAQ.sk3.D → Option R) (kx : XD zAQ.xs3 → Option R) : roundK (zAQ.cfg N) N (nthLoop (fnBody Tryz.f12) 0) zAQ.sk3 zAQ.xs3 d kn kx = zAQ.l3 N d kn kx := by kernel_rfl
theorem zAQ.i3 (N : Nat) : LoopsOk Tryz.prog (zAQ.cfg N) (nthLoop (fnBody Tryz.f12) 0) := loopsL (l := []) (by kernel_rfl) trivial
theorem zAQ.o3 (N : Nat) : LoopOk Tryz.prog (nthLoop (fnBody Tryz.f12) 0) (loopCon N zAQ.sk3 zAQ.xs3 (fun {R} => zAQ.l3 (R := R) N)) := loop_ok (g := zAQ.cfg N) tys_ok (zAQ.cons N) mixed (zAQ.i3 N) (fun d kn kx => zAQ.h3 N d kn kx)
theorem zAQ.ls (N : Nat) : LoopsOk Tryz.prog (zAQ.cfg N) (fnBody Tryz.f12) := loopsL (l := [nthLoop (fnBody Tryz.f12) 0]) (by kernel_rfl) ⟨loopOne (L0 := loopCon N zAQ.sk3 zAQ.xs3 (fun {R} => zAQ.l3 (R := R) N)) (id := 3) (by kernel_rfl) (by kernel_rfl) (zAQ.o3 N), trivial⟩
theorem zAQ.q3 {R R' : Type} {N n : Nat} {d} {k} {g : R → Option R'} : bindF (loopP (zAQ.l3 N) n d k) g = loopP (zAQ.l3 N) n d fun e => bindF (k e) g := bindF_loopP (fun d kn kx => by simp only [zAQ.l3, bindF_ifB, bindF_bindO, bindF_pure, bindF_none, bindF_onSum]) n d k
theorem zAQ.b (N : Nat) (x0 : den s22) : body (zAQ.cfg N) N Tryz.f12 [.one] [.v] [(true, .imm)] [⟨s22, .imm, x0⟩] (fun r i => some (r, i)) = bindO (zAQ N x0) fun r => some ([⟨s46, .imm, r⟩], []) := by
  show _ = bindF _ _
  conv => rhs; simp only [zAQ, bindF_ifB, bindF_bindO, bindF_pure, bindF_none, bindF_onSum, zAQ.q3]
  kernel_rfl
theorem zAQ.ok (N : Nat) : ConOk Tryz.prog 12 [.one] (zAQ.con N) := ok1 (g := zAQ.cfg N) (N := N) (res := [(true, .imm)]) tys_ok (zAQ.cons N) mixed Tryz.func12 (zAQ.ls N) rfl (zAQ.b N)
theorem zAQ.det (N : Nat) : ConDet (zAQ.con N) := det1
def zAF.con (N : Nat) : Con := { modes := [.io, .v], ptrs := [false], fn := fn2 s46 .imm (.int .i64) .imm (zAF N) (fun r => [⟨(.int .i64), .imm, r.1⟩]) (fun r => [⟨s46, .imm, r.2⟩]) }
def zAF.cfg (N : Nat) : Cfg := { ty := tys, keep := [], flt := [], elm := elm0, live := [], ord := [(4, [0, 1, 2, 3, 4, 5, 6, 7, 8, 9]), (5, [0, 1, 2, 3, 4, 5, 6, 7, 8, 9, 10, 11]), (7, [0, 1, 2, 3, 4, 5, 6, 7, 8, 9, 10, 11, 12, 13]), (8, [0, 1, 2, 3, 4, 5, 6, 7, 8, 9, 10, 11, 12, 13]), (9, [0, 1, 2, 3, 4, 5, 6, 7, 8, 9, 10, 11, 12, 13])], con := [], loops := [], joins := [] }
theorem zAF.cons (N : Nat) : ConsOk Tryz.prog (zAF.cfg N).con := consOk_nil
theorem zAF.ls (N : Nat) : LoopsOk Tryz.prog (zAF.cfg N) (fnBody Tryz.f16) := loopsL (l := []) (by kernel_rfl) trivial
theorem zAF.b (N : Nat) (x0 : den s46) (x1 : den (.int .i64)) : body (zAF.cfg N) N Tryz.f16 [.one, .one] [.io, .v] [(false, .imm)] [⟨s46, .imm, x0⟩, ⟨(.int .i64), .imm, x1⟩] (fun r i => some (r, i)) = bindO (zAF N x0 x1) fun r => some ([⟨(.int .i64), .imm, r.1⟩], [⟨s46, .imm, r.2⟩]) := by
  show _ = bindF _ _
  conv => rhs; simp only [zAF, bindF_ifB, bindF_bindO, bindF_pure, bindF_none, bindF_onSum]
  kernel_rfl
theorem zAF.ok (N : Nat) : ConOk Tryz.prog 16 [.one, .one] (zAF.con N) := ok2 (g := zAF.cfg N) (N := N) (res := [(false, .imm)]) tys_ok (zAF.cons N) mixed Tryz.func16 (zAF.ls N) rfl (zAF.b N)
theorem zAF.det (N : Nat) : ConDet (zAF.con N) := det2
def zBQ.con (N : Nat) : Con := { modes := [.io], ptrs := [false], fn := fn1 s46 .imm (zBQ N) (fun r => [⟨(.int .i64), .imm, r.1⟩]) (fun r => [⟨s46, .imm, r.2⟩]) }
def zBQ.cfg (N : Nat) : Cfg := { ty := tys, keep := [4, 13, 20, 27, 34, 40, 43], flt := [], elm := elm0, live := [], ord := [], con := [((16, [.one, .one]), zAF.con N)], loops := [], joins := [] }
theorem zBQ.cons (N : Nat) : ConsOk Tryz.prog (zBQ.cfg N).con := (consOk_cons (hb16) (zAF.ok N) (zAF.det N) consOk_nil)
theorem zBQ.ls (N : Nat) : LoopsOk Tryz.prog (zBQ.cfg N) (fnBody Tryz.f62) := loopsL (l := []) (by kernel_rfl) trivial
theorem zBQ.b (N : Nat) (x0 : den s46) : body (zBQ.cfg N) N Tryz.f62 [.one] [.io] [(false, .imm)] [⟨s46, .imm, x0⟩] (fun r i => some (r, i)) = bindO (zBQ N x0) fun r => some ([⟨(.int .i64), .imm, r.1⟩], [⟨s46, .imm, r.2⟩]) := by
  show _ = bindF _ _
  conv => rhs; simp only [zBQ, bindF_ifB, bindF_bindO, bindF_pure, bindF_none, bindF_onSum]
  kernel_rfl
theorem zBQ.ok (N : Nat) : ConOk Tryz.prog 62 [.one] (zBQ.con N) := ok1 (g := zBQ.cfg N) (N := N) (res := [(false, .imm)]) tys_ok (zBQ.cons N) mixed Tryz.func62 (zBQ.ls N) rfl (zBQ.b N)
theorem zBQ.det (N : Nat) : ConDet (zBQ.con N) := det1
def zAD.sk2 : Skel := ⟨.ptr 0 [] :: (.pv (.int .i64) :: (dd 3 (.ov 50 [] :: (dd 11 [])))), [⟨0, s46, .imm, true, false⟩, ⟨50, s23, (.own .imm), false, false⟩]⟩
def zAD.xs2 : List XS := [⟨.exit 0, [5], ⟨dd 5 (.ov 50 [] :: (dd 11 [])), [⟨0, s46, .imm, true, false⟩, ⟨50, s23, (.own .imm), false, false⟩]⟩⟩]
def zAD.con (N : Nat) : Con := { modes := [.io, .v], ptrs := [false], fn := fn2 s46 .imm (.int .i64) .imm (zAD N) (fun r => [⟨s23, (.own .imm), r.1⟩]) (fun r => [⟨s46, .imm, r.2⟩]) }
def zAD.cfg (N : Nat) : Cfg := { ty := tys, keep := [13], flt := [], elm := elm0, live := [(2, [0, 1, 5])], ord := [], con := [((62, [.one]), zBQ.con N)], loops := [(2, loopCon N zAD.sk2 zAD.xs2 (fun {R} => zAD.l2 (R := R) N))], joins := [] }
theorem zAD.cons (N : Nat) : ConsOk Tryz.prog (zAD.cfg N).con := (consOk_cons (hb62) (zBQ.ok N) (zBQ.det N) consOk_nil)
theorem zAD.h2 {R : Type} (N : Nat) (d : zAD.sk2.D) (kn : zAD.sk2.D → Option R) (kx : XD zAD.xs2 → Option R) : roundK (zAD.cfg N) N (nthLoop (fnBody Tryz.f33) 0) zAD.sk2 zAD.xs2 d kn kx = zAD.l2 N d kn kx := by kernel_rfl
theorem zAD.i2 (N : Nat) : LoopsOk Tryz.prog (zAD.cfg N) (nthLoop (fnBody Tryz.f33) 0) := loopsL (l := []) (by kernel_rfl) trivial
theorem zAD.o2 (N : Nat) : LoopOk Tryz.prog (nthLoop (fnBody Tryz.f33) 0) (loopCon N zAD.sk2 zAD.xs2 (fun {R} => zAD.l2 (R := R) N)) := loop_ok (g := zAD.cfg N) tys_ok (zAD.cons N) mixed (zAD.i2 N) (fun d kn kx => zAD.h2 N d kn kx)
theorem zAD.ls (N : Nat) : LoopsOk Tryz.prog (zAD.cfg N) (fnBody Tryz.f33) := loopsL (l := [nthLoop (fnBody Tryz.f33) 0]) (by kernel_rfl) ⟨loopOne (L0 := loopCon N zAD.sk2 zAD.xs2 (fun {R} => zAD.l2 (R := R) N)) (id := 2) (by kernel_rfl) (by kernel_rfl) (zAD.o2 N), trivial⟩
theorem zAD.q2 {R R' : Type} {N n : Nat} {d} {k} {g : R → Option R'} : bindF (loopP (zAD.l2 N) n d k) g = loopP (zAD.l2 N) n d fun e => bindF (k e) g := bindF_loopP (fun d kn kx => by simp only [zAD.l2, bindF_ifB, bindF_bindO, bindF_pure, bindF_none, bindF_onSum]) n d k
theorem zAD.b (N : Nat) (x0 : den s46) (x1 : den (.int .i64)) : body (zAD.cfg N) N Tryz.f33 [.one, .one] [.io, .v] [(false, (.own .imm))] [⟨s46, .imm, x0⟩, ⟨(.int .i64), .imm, x1⟩] (fun r i => some (r, i)) = bindO (zAD N x0 x1) fun r => some ([⟨s23, (.own .imm), r.1⟩], [⟨s46, .imm, r.2⟩]) := by
  show _ = bindF _ _
  conv => rhs; simp only [zAD, bindF_ifB, bindF_bindO, bindF_pure, bindF_none, bindF_onSum, zAD.q2]
  kernel_rfl
theorem zAD.ok (N : Nat) : ConOk Tryz.prog 33 [.one, .one] (zAD.con N) := ok2 (g := zAD.cfg N) (N := N) (res := [(false, (.own .imm))]) tys_ok (zAD.cons N) mixed Tryz.func33 (zAD.ls N) rfl (zAD.b N)
theorem zAD.det (N : Nat) : ConDet (zAD.con N) := det2
def zAV.con (N : Nat) : Con := { modes := [.io, .v], ptrs := [false], fn := fn2 s46 .imm (.int .i64) .imm (zAV N) (fun r => [⟨.bool, .imm, r.1⟩]) (fun r => [⟨s46, .imm, r.2⟩]) }
def zAV.cfg (N : Nat) : Cfg := { ty := tys, keep := [7], flt := [], elm := elm0, live := [], ord := [], con := [((16, [.one, .one]), zAF.con N)], loops := [], joins := [] }
theorem zAV.cons (N : Nat) : ConsOk Tryz.prog (zAV.cfg N).con := (consOk_cons (hb16) (zAF.ok N) (zAF.det N) consOk_nil)
theorem zAV.ls (N : Nat) : LoopsOk Tryz.prog (zAV.cfg N) (fnBody Tryz.f34) := loopsL (l := []) (by kernel_rfl) trivial
theorem zAV.b (N : Nat) (x0 : den s46) (x1 : den (.int .i64)) : body (zAV.cfg N) N Tryz.f34 [.one, .one] [.io, .v] [(false, .imm)] [⟨s46, .imm, x0⟩, ⟨(.int .i64), .imm, x1⟩] (fun r i => some (r, i)) = bindO (zAV N x0 x1) fun r => some ([⟨.bool, .imm, r.1⟩], [⟨s46, .imm, r.2⟩]) := by
  show _ = bindF _ _
  conv => rhs; simp only [zAV, bindF_ifB, bindF_bindO, bindF_pure, bindF_none, bindF_onSum]
  kernel_rfl
theorem zAV.ok (N : Nat) : ConOk Tryz.prog 34 [.one, .one] (zAV.con N) := ok2 (g := zAV.cfg N) (N := N) (res := [(false, .imm)]) tys_ok (zAV.cons N) mixed Tryz.func34 (zAV.ls N) rfl (zAV.b N)
theorem zAV.det (N : Nat) : ConDet (zAV.con N) := det2
def zBK.con (N : Nat) : Con := { modes := [.io], ptrs := [false], fn := fn1 s46 .imm (zBK N) (fun r => [⟨s24, (.pr (.own .imm) .imm), r.1⟩]) (fun r => [⟨s46, .imm, r.2⟩]) }
def zBK.cfg (N : Nat) : Cfg := { ty := tys, keep := [13, 14, 17, 20, 22, 30, 35, 38, 40, 52, 62], flt := [], elm := elm0, live := [], ord := [], con := [((16, [.one, .one]), zAF.con N), ((33, [.one, .one]), zAD.con N), ((34, [.one, .one]), zAV.con N)], loops := [], joins := [] }
theorem zBK.cons (N : Nat) : ConsOk Tryz.prog (zBK.cfg N).con := (consOk_cons (hb16) (zAF.ok N) (zAF.det N) (consOk_cons (hb33) (zAD.ok N) (zAD.det N) (consOk_cons (hb34) (zAV.ok N) (zAV.det N) consOk_nil)))
theorem zBK.ls (N : Nat) : LoopsOk Tryz.prog (zBK.cfg N) (fnBody Tryz.f13) := loopsL (l := []) (by kernel_rfl) trivial
theorem zBK.b (N : Nat) (x0 : den s46) : body (zBK.cfg N) N Tryz.f13 [.one] [.io] [(false, (.pr (.own .imm) .imm))] [⟨s46, .imm, x0⟩] (fun r i => some (r, i)) = bindO (zBK N x0) fun r => some ([⟨s24, (.pr (.own .imm) .imm), r.1⟩], [⟨s46, .imm, r.2⟩]) := by
  show _ = bindF _ _
  conv => rhs; simp only [zBK, bindF_ifB, bindF_bindO, bindF_pure, bindF_none, bindF_onSum]
  kernel_rfl
theorem zBK.ok (N : Nat) : ConOk Tryz.prog 13 [.one] (zBK.con N) := ok1 (g := zBK.cfg N) (N := N) (res := [(false, (.pr (.own .imm) .imm))]) tys_ok (zBK.cons N) mixed Tryz.func13 (zBK.ls N) rfl (zBK.b N)
theorem zBK.det (N : Nat) : ConDet (zBK.con N) := det1
def zAE.sk5 : Skel := ⟨.ptr 0 [] :: (dd 1 (.ptr 50 [] :: (.ptr 51 [] :: (.pv (.int .i64) :: (dd 66 []))))), [⟨0, s46, .imm, true, false⟩, ⟨50, s27, (.pr (.own (.own .imm)) .imm), true, false⟩, ⟨51, s27, (.pr (.own (.own .imm)) .imm), true, false⟩]⟩
def zAE.xs5 : List XS := [⟨.exit 0, [0, 2, 3], ⟨.ptr 0 [] :: (dd 1 (.ptr 50 [] :: (.ptr 51 [] :: (dd 67 [])))), [⟨0, s46, .imm, true, false⟩, ⟨50, s27, (.pr (.own (.own .imm)) .imm), true, false⟩, ⟨51, s27, (.pr (.own (.own .imm)) .imm), true, false⟩]⟩⟩]
def zAE.con (N : Nat) : Con := { modes := [.io], ptrs := [false], fn := fn1 s46 .imm (zAE N) (fun r => [⟨s27, (.pr (.own (.own .imm)) .imm), r.1⟩]) (fun r => [⟨s46, .imm, r.2⟩]) }
def zAE.cfg (N : Nat) : Cfg := { ty := tys, keep := [7, 9, 11, 21, 23, 35, 38, 40, 58, 45, 47], flt := [], elm := elm0, live := [(5, [0, 2, 3, 4])], ord := [(7, [0, 1, 2, 3, 4, 5, 6, 7, 8, 9, 10]), (14, [0, 1, 4, 2, 3, 5, 6, 7, 8, 9]), (12, [0, 1, 2, 3, 4, 5, 6, 7, 8, 9, 10])], con := [((16, [.one, .one]), zAF.con N), ((34, [.one, .one]), zAV.con N), ((33, [.one, .one]), zAD.con N)], loops := [(5, loopCon N zAE.sk5 zAE.xs5 (fun {R} => zAE.l5 (R := R) N))], joins := [] }
theorem zAE.cons (N : Nat) : ConsOk Tryz.prog (zAE.cfg N).con := (consOk_cons (hb16) (zAF.ok N) (zAF.det N) (consOk_cons (hb34) (zAV.ok N) (zAV.det N) (consOk_cons (hb33) (zAD.ok N) (zAD.det N) consOk_nil)))
theorem zAE.h5 {R : Type} (N : Nat) (d : zAE.sk5.D) (kn : zAE.sk5.D → Option R) (kx : XD zAE.xs5 → Option R) : roundK (zAE.cfg N) N (nthLoop (fnBody Tryz.f14) 0) zAE.sk5 zAE.xs5 d kn kx = zAE.l5 N d kn kx := by kernel_rfl
theorem zAE.i5 (N : Nat) : LoopsOk Tryz.prog (zAE.cfg N) (nthLoop (fnBody Tryz.f14) 0) := loopsL (l := []) (by kernel_rfl) trivial
theorem zAE.o5 (N : Nat) : LoopOk Tryz.prog (nthLoop (fnBody Tryz.f14) 0) (loopCon N zAE.sk5 zAE.xs5 (fun {R} => zAE.l5 (R := R) N)) := loop_ok (g := zAE.cfg N) tys_ok (zAE.cons N) mixed (zAE.i5 N) (fun d kn kx => zAE.h5 N d kn kx)
theorem zAE.ls (N : Nat) : LoopsOk Tryz.prog (zAE.cfg N) (fnBody Tryz.f14) := loopsL (l := [nthLoop (fnBody Tryz.f14) 0]) (by kernel_rfl) ⟨loopOne (L0 := loopCon N zAE.sk5 zAE.xs5 (fun {R} => zAE.l5 (R := R) N)) (id := 5) (by kernel_rfl) (by kernel_rfl) (zAE.o5 N), trivial⟩
theorem zAE.q5 {R R' : Type} {N n : Nat} {d} {k} {g : R → Option R'} : bindF (loopP (zAE.l5 N) n d k) g = loopP (zAE.l5 N) n d fun e => bindF (k e) g := bindF_loopP (fun d kn kx => by simp only [zAE.l5, bindF_ifB, bindF_bindO, bindF_pure, bindF_none, bindF_onSum]) n d k
theorem zAE.b (N : Nat) (x0 : den s46) : body (zAE.cfg N) N Tryz.f14 [.one] [.io] [(false, (.pr (.own (.own .imm)) .imm))] [⟨s46, .imm, x0⟩] (fun r i => some (r, i)) = bindO (zAE N x0) fun r => some ([⟨s27, (.pr (.own (.own .imm)) .imm), r.1⟩], [⟨s46, .imm, r.2⟩]) := by
  show _ = bindF _ _
  conv => rhs; simp only [zAE, bindF_ifB, bindF_bindO, bindF_pure, bindF_none, bindF_onSum, zAE.q5]
  kernel_rfl
theorem zAE.ok (N : Nat) : ConOk Tryz.prog 14 [.one] (zAE.con N) := ok1 (g := zAE.cfg N) (N := N) (res := [(false, (.pr (.own (.own .imm)) .imm))]) tys_ok (zAE.cons N) mixed Tryz.func14 (zAE.ls N) rfl (zAE.b N)
theorem zAE.det (N : Nat) : ConDet (zAE.con N) := det1
def zB5.sk5 : Skel := ⟨.pv (.int .i64) :: (dd 2 (.pv .bool :: (.pv .str :: (dd 26 [])))), []⟩
def zB5.xs5 : List XS := [⟨.exit 0, [3, 4], ⟨dd 3 (.pv .bool :: (.pv .str :: (dd 26 []))), []⟩⟩]
def zB5.con (N : Nat) : Con := { modes := [.v], ptrs := [false], fn := fn1 (.int .i64) .imm (zB5 N) (fun r => [⟨.str, .imm, r⟩]) (fun r => []) }
def zB5.cfg (N : Nat) : Cfg := { ty := tys, keep := [], flt := [], elm := elm0, live := [(5, [0, 3, 4])], ord := [], con := [], loops := [(5, loopCon N zB5.sk5 zB5.xs5 (fun {R} => zB5.l5 (R := R) N))], joins := [] }
theorem zB5.cons (N : Nat) : ConsOk Tryz.prog (zB5.cfg N).con := consOk_nil
theorem zB5.h5 {R : Type} (N : Nat) (d : zB5.sk5.D) (kn : zB5.sk5.D → Option R) (kx : XD zB5.xs5 → Option R) : roundK (zB5.cfg N) N (nthLoop (fnBody Tryz.f35) 0) zB5.sk5 zB5.xs5 d kn kx = zB5.l5 N d kn kx := by kernel_rfl
theorem zB5.i5 (N : Nat) : LoopsOk Tryz.prog (zB5.cfg N) (nthLoop (fnBody Tryz.f35) 0) := loopsL (l := []) (by kernel_rfl) trivial
theorem zB5.o5 (N : Nat) : LoopOk Tryz.prog (nthLoop (fnBody Tryz.f35) 0) (loopCon N zB5.sk5 zB5.xs5 (fun {R} => zB5.l5 (R := R) N)) := loop_ok (g := zB5.cfg N) tys_ok (zB5.cons N) mixed (zB5.i5 N) (fun d kn kx => zB5.h5 N d kn kx)
theorem zB5.ls (N : Nat) : LoopsOk Tryz.prog (zB5.cfg N) (fnBody Tryz.f35) := loopsL (l := [nthLoop (fnBody Tryz.f35) 0]) (by kernel_rfl) ⟨loopOne (L0 := loopCon N zB5.sk5 zB5.xs5 (fun {R} => zB5.l5 (R := R) N)) (id := 5) (by kernel_rfl) (by kernel_rfl) (zB5.o5 N), trivial⟩
theorem zB5.q5 {R R' : Type} {N n : Nat} {d} {k} {g : R → Option R'} : bindF (loopP (zB5.l5 N) n d k) g = loopP (zB5.l5 N) n d fun e => bindF (k e) g := bindF_loopP (fun d kn kx => by simp only [zB5.l5, bindF_ifB, bindF_bindO, bindF_pure, bindF_none, bindF_onSum]) n d k
theorem zB5.b (N : Nat) (x0 : den (.int .i64)) : body (zB5.cfg N) N Tryz.f35 [.one] [.v] [(false, .imm)] [⟨(.int .i64), .imm, x0⟩] (fun r i => some (r, i)) = bindO (zB5 N x0) fun r => some ([⟨.str, .imm, r⟩], []) := by
  show _ = bindF _ _
  conv => rhs; simp only [zB5, bindF_ifB, bindF_bindO, bindF_pure, bindF_none, bindF_onSum, zB5.q5]
  kernel_rfl
theorem zB5.ok (N : Nat) : ConOk Tryz.prog 35 [.one] (zB5.con N) := ok1 (g := zB5.cfg N) (N := N) (res := [(false, .imm)]) tys_ok (zB5.cons N) mixed Tryz.func35 (zB5.ls N) rfl (zB5.b N)
theorem zB5.det (N : Nat) : ConDet (zB5.con N) := det1
def zB7.con (N : Nat) : Con := { modes := [.io, .v], ptrs := [false], fn := fn2 s46 .imm (.sl 9 .str) .imm (zB7 N) (fun r => [⟨.str, .imm, r.1⟩]) (fun r => [⟨s46, .imm, r.2⟩]) }
def zB7.cfg (N : Nat) : Cfg := { ty := tys, keep := [9], flt := [], elm := elm0, live := [], ord := [], con := [((16, [.one, .one]), zAF.con N)], loops := [], joins := [] }
theorem zB7.cons (N : Nat) : ConsOk Tryz.prog (zB7.cfg N).con := (consOk_cons (hb16) (zAF.ok N) (zAF.det N) consOk_nil)
theorem zB7.ls (N : Nat) : LoopsOk Tryz.prog (zB7.cfg N) (fnBody Tryz.f36) := loopsL (l := []) (by kernel_rfl) trivial
theorem zB7.b (N : Nat) (x0 : den s46) (x1 : den (.sl 9 .str)) : body (zB7.cfg N) N Tryz.f36 [.one, .one] [.io, .v] [(false, .imm)] [⟨s46, .imm, x0⟩, ⟨(.sl 9 .str), .imm, x1⟩] (fun r i => some (r, i)) = bindO (zB7 N x0 x1) fun r => some ([⟨.str, .imm, r.1⟩], [⟨s46, .imm, r.2⟩]) := by
  show _ = bindF _ _
  conv => rhs; simp only [zB7, bindF_ifB, bindF_bindO, bindF_pure, bindF_none, bindF_onSum]
  kernel_rfl
theorem zB7.ok (N : Nat) : ConOk Tryz.prog 36 [.one, .one] (zB7.con N) := ok2 (g := zB7.cfg N) (N := N) (res := [(false, .imm)]) tys_ok (zB7.cons N) mixed Tryz.func36 (zB7.ls N) rfl (zB7.b N)
theorem zB7.det (N : Nat) : ConDet (zB7.con N) := det2
def zAG.sk2 : Skel := ⟨.ptr 0 [] :: (.pv (.int .i64) :: (dd 3 (.pv .str :: (dd 32 [])))), [⟨0, s46, .imm, true, false⟩]⟩
def zAG.xs2 : List XS := [⟨.exit 0, [5], ⟨dd 5 (.pv .str :: (dd 32 [])), [⟨0, s46, .imm, true, false⟩]⟩⟩]
def zAG.con (N : Nat) : Con := { modes := [.io, .v], ptrs := [false], fn := fn2 s46 .imm (.int .i64) .imm (zAG N) (fun r => [⟨.str, .imm, r.1⟩]) (fun r => [⟨s46, .imm, r.2⟩]) }
def zAG.cfg (N : Nat) : Cfg := { ty := tys, keep := [11, 14, 16, 21, 24, 28, 31, 35], flt := [], elm := elm0, live := [(2, [0, 1, 5])], ord := [], con := [((34, [.one, .one]), zAV.con N), ((16, [.one, .one]), zAF.con N), ((35, [.one]), zB5.con N), ((36, [.one, .one]), zB7.con N)], loops := [(2, loopCon N zAG.sk2 zAG.xs2 (fun {R} => zAG.l2 (R := R) N))], joins := [(3, [⟨.normal, [0, 1, 5], ⟨.ptr 0 [] :: (.pv (.int .i64) :: (dd 3 (.pv .str :: (dd 32 [])))), [⟨0, s46, .imm, true, false⟩]⟩⟩])] }
theorem zAG.cons (N : Nat) : ConsOk Tryz.prog (zAG.cfg N).con := (consOk_cons (hb34) (zAV.ok N) (zAV.det N) (consOk_cons (hb16) (zAF.ok N) (zAF.det N) (consOk_cons (hb35) (zB5.ok N) (zB5.det N) (consOk_cons (hb36) (zB7.ok N) (zB7.det N) consOk_nil))))
theorem zAG.h2 {R : Type} (N : Nat) (d : zAG.sk2.D) (kn : zAG.sk2.D → Option R) (kx : XD zAG.xs2 → Option R) : roundK (zAG.cfg N) N (nthLoop (fnBody Tryz.f15) 0) zAG.sk2 zAG.xs2 d kn kx = zAG.l2 N d kn kx := by kernel_rfl
theorem zAG.i2 (N : Nat) : LoopsOk Tryz.prog (zAG.cfg N) (nthLoop (fnBody Tryz.f15) 0) := loopsL (l := []) (by kernel_rfl) trivial
theorem zAG.o2 (N : Nat) : LoopOk Tryz.prog (nthLoop (fnBody Tryz.f15) 0) (loopCon N zAG.sk2 zAG.xs2 (fun {R} => zAG.l2 (R := R) N)) := loop_ok (g := zAG.cfg N) tys_ok (zAG.cons N) mixed (zAG.i2 N) (fun d kn kx => zAG.h2 N d kn kx)
theorem zAG.ls (N : Nat) : LoopsOk Tryz.prog (zAG.cfg N) (fnBody Tryz.f15) := loopsL (l := [nthLoop (fnBody Tryz.f15) 0]) (by kernel_rfl) ⟨loopOne (L0 := loopCon N zAG.sk2 zAG.xs2 (fun {R} => zAG.l2 (R := R) N)) (id := 2) (by kernel_rfl) (by kernel_rfl) (zAG.o2 N), trivial⟩
theorem zAG.q2 {R R' : Type} {N n : Nat} {d} {k} {g : R → Option R'} : bindF (loopP (zAG.l2 N) n d k) g = loopP (zAG.l2 N) n d fun e => bindF (k e) g := bindF_loopP (fun d kn kx => by simp only [zAG.l2, bindF_ifB, bindF_bindO, bindF_pure, bindF_none, bindF_onSum]) n d k
theorem zAG.b (N : Nat) (x0 : den s46) (x1 : den (.int .i64)) : body (zAG.cfg N) N Tryz.f15 [.one, .one] [.io, .v] [(false, .imm)] [⟨s46, .imm, x0⟩, ⟨(.int .i64), .imm, x1⟩] (fun r i => some (r, i)) = bindO (zAG N x0 x1) fun r => some ([⟨.str, .imm, r.1⟩], [⟨s46, .imm, r.2⟩]) := by
  show _ = bindF _ _
  conv => rhs; simp only [zAG, bindF_ifB, bindF_bindO, bindF_pure, bindF_none, bindF_onSum, zAG.q2]
  kernel_rfl
theorem zAG.ok (N : Nat) : ConOk Tryz.prog 15 [.one, .one] (zAG.con N) := ok2 (g := zAG.cfg N) (N := N) (res := [(false, .imm)]) tys_ok (zAG.cons N) mixed Tryz.func15 (zAG.ls N) rfl (zAG.b N)
theorem zAG.det (N : Nat) : ConDet (zAG.con N) := det2
def zC5.con (N : Nat) : Con := { modes := [.v], ptrs := [false, false, false], fn := fn1 s22 .imm (zC5 N) (fun r => [⟨s24, (.pr (.own .imm) .imm), r.1⟩, ⟨s27, (.pr (.own (.own .imm)) .imm), r.2.1⟩, ⟨.str, .imm, r.2.2⟩]) (fun r => []) }
def zC5.cfg (N : Nat) : Cfg := { ty := tys, keep := [9, 11, 13, 23, 24], flt := [], elm := elm0, live := [], ord := [(4, [0, 1, 2, 3, 4, 5, 6, 7, 8, 9, 10, 11, 12, 13])], con := [((12, [.one]), zAQ.con N), ((13, [.one]), zBK.con N), ((14, [.one]), zAE.con N), ((16, [.one, .one]), zAF.con N), ((15, [.one, .one]), zAG.con N)], loops := [], joins := [] }
theorem zC5.cons (N : Nat) : ConsOk Tryz.prog (zC5.cfg N).con := (consOk_cons (hb12) (zAQ.ok N) (zAQ.det N) (consOk_cons (hb13) (zBK.ok N) (zBK.det N) (consOk_cons (hb14) (zAE.ok N) (zAE.det N) (consOk_cons (hb16) (zAF.ok N) (zAF.det N) (consOk_cons (hb15) (zAG.ok N) (zAG.det N) consOk_nil)))))
theorem zC5.ls (N : Nat) : LoopsOk Tryz.prog (zC5.cfg N) (fnBody Tryz.f4) := loopsL (l := []) (by kernel_rfl) trivial
theorem zC5.b (N : Nat) (x0 : den s22) : body (zC5.cfg N) N Tryz.f4 [.one] [.v] [(false, (.pr (.own .imm) .imm)), (false, (.pr (.own (.own .imm)) .imm)), (false, .imm)] [⟨s22, .imm, x0⟩] (fun r i => some (r, i)) = bindO (zC5 N x0) fun r => some ([⟨s24, (.pr (.own .imm) .imm), r.1⟩, ⟨s27, (.pr (.own (.own .imm)) .imm), r.2.1⟩, ⟨.str, .imm, r.2.2⟩], []) := by
  show _ = bindF _ _
  conv => rhs; simp only [zC5, bindF_ifB, bindF_bindO, bindF_pure, bindF_none, bindF_onSum]
  kernel_rfl
theorem zC5.ok (N : Nat) : ConOk Tryz.prog 4 [.one] (zC5.con N) := ok1 (g := zC5.cfg N) (N := N) (res := [(false, (.pr (.own .imm) .imm)), (false, (.pr (.own (.own .imm)) .imm)), (false, .imm)]) tys_ok (zC5.cons N) mixed Tryz.func4 (zC5.ls N) rfl (zC5.b N)
theorem zC5.det (N : Nat) : ConDet (zC5.con N) := det1
def zC2.con (N : Nat) : Con := { modes := [.v], ptrs := [false], fn := fn1 (.int .i64) .imm (zC2 N) (fun r => [⟨.bool, .imm, r⟩]) (fun r => []) }
def zC2.cfg (N : Nat) : Cfg := { ty := tys, keep := [], flt := [], elm := elm0, live := [], ord := [], con := [], loops := [], joins := [] }
theorem zC2.cons (N : Nat) : ConsOk Tryz.prog (zC2.cfg N).con := consOk_nil
theorem zC2.ls (N : Nat) : LoopsOk Tryz.prog (zC2.cfg N) (fnBody Tryz.f63) := loopsL (l := []) (by kernel_rfl) trivial
theorem zC2.b (N : Nat) (x0 : den (.int .i64)) : body (zC2.cfg N) N Tryz.f63 [.one] [.v] [(false, .imm)] [⟨(.int .i64), .imm, x0⟩] (fun r i => some (r, i)) = bindO (zC2 N x0) fun r => some ([⟨.bool, .imm, r⟩], []) := by
  show _ = bindF _ _
  conv => rhs; simp only [zC2, bindF_ifB, bindF_bindO, bindF_pure, bindF_none, bindF_onSum]
  kernel_rfl
theorem zC2.ok (N : Nat) : ConOk Tryz.prog 63 [.one] (zC2.con N) := ok1 (g := zC2.cfg N) (N := N) (res := [(false, .imm)]) tys_ok (zC2.cons N) mixed Tryz.func63 (zC2.ls N) rfl (zC2.b N)
theorem zC2.det (N : Nat) : ConDet (zC2.con N) := det1
end Go.AE.F
end
