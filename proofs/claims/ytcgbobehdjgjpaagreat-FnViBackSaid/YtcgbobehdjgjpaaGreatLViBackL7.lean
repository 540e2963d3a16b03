/- The printed functions are what the program comes to: contracts. -/
import Derived.Test.YtcgbobehdjgjpaaGreatLViBackL6
noncomputable section
namespace Go.AE.F
open Go.AE Go.Proofs
set_option maxRecDepth 100000
def zA4.sk8 : Skel := ⟨dd 1 (.pv (.int .i64) :: (dd 2 (.ptr 50 [] :: (dd 114 [])))), [⟨50, s24, .imm, true, false⟩]⟩
def zA4.xs8 : List XS := [⟨.exit 1, [1, 4, 45, 46, 47, 48, 49, 50, 51, 52], ⟨dd 1 (.pv (.int .i64) :: (dd 2 (.ptr 50 [] :: (dd 114 [])))), [⟨50, s24, .imm, true, false⟩]⟩⟩]
def zA4.sk10 : Skel := ⟨dd 1 (.pv (.int .i64) :: (dd 2 (.ptr 50 [] :: (dd 114 [])))), [⟨50, s24, .imm, true, false⟩]⟩
def zA4.xs10 : List XS := [⟨.exit 3, [1], ⟨dd 1 (.pv (.int .i64) :: (dd 117 [])), []⟩⟩]
def zA4.sk14 : Skel := ⟨dd 1 (.pv (.int .i64) :: (dd 2 (.ptr 50 [] :: (dd 4 (.pv (.int .i64) :: (dd 109 [])))))), [⟨50, s24, .imm, true, false⟩]⟩
def zA4.xs14 : List XS := [⟨.exit 5, [1, 4, 9, 77, 78, 79, 80, 81, 82, 83], ⟨dd 1 (.pv (.int .i64) :: (dd 2 (.ptr 50 [] :: (dd 4 (.pv (.int .i64) :: (dd 109 [])))))), [⟨50, s24, .imm, true, false⟩]⟩⟩]
def zA4.sk16 : Skel := ⟨dd 1 (.pv (.int .i64) :: (dd 2 (.ptr 50 [] :: (dd 4 (.pv (.int .i64) :: (dd 109 [])))))), [⟨50, s24, .imm, true, false⟩]⟩
def zA4.xs16 : List XS := [⟨.exit 7, [1], ⟨dd 1 (.pv (.int .i64) :: (dd 117 [])), []⟩⟩]
def zA4.sk28 : Skel := ⟨dd 1 (.pv (.int .i64) :: (dd 1 (.pv (.int .i64) :: (.ptr 50 [] :: (dd 4 (.pv (.int .i64) :: (.pv (.int .i64) :: (dd 108 [])))))))), [⟨50, s24, .imm, true, false⟩]⟩
def zA4.xs28 : List XS := [⟨.exit 9, [1], ⟨dd 1 (.pv (.int .i64) :: (dd 117 [])), []⟩⟩, ⟨.ret, [8], ⟨dd 8 (.pv (.int .i64) :: (dd 110 [])), []⟩⟩]
def zA4.con (N : Nat) : Con := { modes := [.v, .v, .v, .v], ptrs := [false], fn := fn4 s24 .imm (.int .i64) .imm (.int .i64) .imm (.int .i64) .imm (zA4 N) (fun r => [⟨(.int .i64), .imm, r⟩]) (fun r => []) }
def zA4.cfg (N : Nat) : Cfg := { ty := tys, keep := [19, 25, 37, 51, 68, 82, 92, 97], flt := [], elm := elm0, live := [(28, [1, 3, 4, 9, 10]), (10, [1, 4, 45, 46, 47, 48, 49, 50, 51, 52]), (8, [1, 4, 31, 32, 33, 34, 35, 36, 37, 38, 45, 46, 47, 48, 49, 50, 51, 52]), (16, [1, 4, 9, 77, 78, 79, 80, 81, 82, 83]), (14, [1, 4, 9, 63, 64, 65, 66, 67, 68, 69, 77, 78, 79, 80, 81, 82, 83])], ord := [], con := [((51, [.one, .one]), zBR.con N), ((56, [.one, .one]), zBL.con N), ((106, [.one]), zC6.con N), ((60, [.one, .one]), zAK.con N), ((59, [.one, .one]), zAV.con N)], loops := [(8, loopCon N zA4.sk8 zA4.xs8 (fun {R} => zA4.l8 (R := R) N)), (10, loopCon N zA4.sk10 zA4.xs10 (fun {R} => zA4.l10 (R := R) N)), (14, loopCon N zA4.sk14 zA4.xs14 (fun {R} => zA4.l14 (R := R) N)), (16, loopCon N zA4.sk16 zA4.xs16 (fun {R} => zA4.l16 (R := R) N)), (28, loopCon N zA4.sk28 zA4.xs28 (fun {R} => zA4.l28 (R := R) N))], joins := [] }
theorem zA4.cons (N : Nat) : ConsOk Tryz.prog (zA4.cfg N).con := (consOk_cons (hb51) (zBR.ok N) (zBR.det N) (consOk_cons (hb56) (zBL.ok N) (zBL.det N) (consOk_cons (hb106) (zC6.ok N) (zC6.det N) (consOk_cons (hb60) (zAK.ok N) (zAK.det N) (consOk_cons (hb59) (zAV.ok N) (zAV.det N) consOk_nil)))))
theorem zA4.h28 {R : Type} (N : Nat) (d : zA4.sk28.D) (kn : zA4.sk28.D → Option R) (kx : XD zA4.xs28 → Option R) : roundK (zA4.cfg N) N (nthLoop (fnBody Tryz.f94) 4) zA4.sk28 zA4.xs28 d kn kx = zA4.l28 N d kn kx := by kernel_rfl
theorem zA4.i28 (N : Nat) : LoopsOk Tryz.prog (zA4.cfg N) (nthLoop (fnBody Tryz.f94) 4) := loopsL (l := []) (by kernel_rfl) trivial
theorem zA4.o28 (N : Nat) : LoopOk Tryz.prog (nthLoop (fnBody Tryz.f94) 4) (loopCon N zA4.sk28 zA4.xs28 (fun {R} => zA4.l28 (R := R) N)) := loop_ok (g := zA4.cfg N) tys_ok (zA4.cons N) mixed (zA4.i28 N) (fun d kn kx => zA4.h28 N d kn kx)
theorem zA4.h16 {R : Type} (N : Nat) (d : zA4.sk16.D) (kn : zA4.sk16.D → Option R) (kx : XD zA4.xs16 → Option R) : roundK (zA4.cfg N) N (nthLoop (fnBody Tryz.f94) 3) zA4.sk16 zA4.xs16 d kn kx = zA4.l16 N d kn kx := by kernel_rfl
theorem zA4.i16 (N : Nat) : LoopsOk Tryz.prog (zA4.cfg N) (nthLoop (fnBody Tryz.f94) 3) := loopsL (l := []) (by kernel_rfl) trivial
theorem zA4.o16 (N : Nat) : LoopOk Tryz.prog (nthLoop (fnBody Tryz.f94) 3) (loopCon N zA4.sk16 zA4.xs16 (fun {R} => zA4.l16 (R := R) N)) := loop_ok (g := zA4.cfg N) tys_ok (zA4.cons N) mixed (zA4.i16 N) (fun d kn kx => zA4.h16 N d kn kx)
theorem zA4.h14 {R : Type} (N : Nat) (d : zA4.sk14.D) (kn : zA4.sk14.D → Option R) (kx : XD zA4.xs14 → Option R) : roundK (zA4.cfg N) N (nthLoop (fnBody Tryz.f94) 2) zA4.sk14 zA4.xs14 d kn kx = zA4.l14 N d kn kx := by kernel_rfl
theorem zA4.i14 (N : Nat) : LoopsOk Tryz.prog (zA4.cfg N) (nthLoop (fnBody Tryz.f94) 2) := loopsL (l := []) (by kernel_rfl) trivial
theorem zA4.o14 (N : Nat) : LoopOk Tryz.prog (nthLoop (fnBody Tryz.f94) 2) (loopCon N zA4.sk14 zA4.xs14 (fun {R} => zA4.l14 (R := R) N)) := loop_ok (g := zA4.cfg N) tys_ok (zA4.cons N) mixed (zA4.i14 N) (fun d kn kx => zA4.h14 N d kn kx)
theorem zA4.h10 {R : Type} (N : Nat) (d : zA4.sk10.D) (kn : zA4.sk10.D → Option R) (kx : XD zA4.xs10 → Option R) : roundK (zA4.cfg N) N (nthLoop (fnBody Tryz.f94) 1) zA4.sk10 zA4.xs10 d kn kx = zA4.l10 N d kn kx := by kernel_rfl
theorem zA4.i10 (N : Nat) : LoopsOk Tryz.prog (zA4.cfg N) (nthLoop (fnBody Tryz.f94) 1) := loopsL (l := []) (by kernel_rfl) trivial
theorem zA4.o10 (N : Nat) : LoopOk Tryz.prog (nthLoop (fnBody Tryz.f94) 1) (loopCon N zA4.sk10 zA4.xs10 (fun {R} => zA4.l10 (R := R) N)) := loop_ok (g := zA4.cfg N) tys_ok (zA4.cons N) mixed (zA4.i10 N) (fun d kn kx => zA4.h10 N d kn kx)
theorem zA4.h8 {R : Type} (N : Nat) (d : zA4.sk8.D) (kn : zA4.sk8.D → Option R) (kx : XD zA4.xs8 → Option R) : roundK (zA4.cfg N) N (nthLoop (fnBody Tryz.f94) 0) zA4.sk8 zA4.xs8 d kn kx = zA4.l8 N d kn kx := by kernel_rfl
theorem zA4.i8 (N : Nat) : LoopsOk Tryz.prog (zA4.cfg N) (nthLoop (fnBody Tryz.f94) 0) := loopsL (l := []) (by kernel_rfl) trivial
theorem zA4.o8 (N : Nat) : LoopOk Tryz.prog (nthLoop (fnBody Tryz.f94) 0) (loopCon N zA4.sk8 zA4.xs8 (fun {R} => zA4.l8 (R := R) N)) := loop_ok (g := zA4.cfg N) tys_ok (zA4.cons N) mixed (zA4.i8 N) (fun d kn kx => zA4.h8 N d kn kx)
theorem zA4.ls (N : Nat) : LoopsOk Tryz.prog (zA4.cfg N) (fnBody Tryz.f94) := loopsL (l := [nthLoop (fnBody Tryz.f94) 0, nthLoop (fnBody Tryz.f94) 1, nthLoop (fnBody Tryz.f94) 2, nthLoop (fnBody Tryz.f94) 3, nthLoop (fnBody Tryz.f94) 4]) (by kernel_rfl) ⟨loopOne (L0 := loopCon N zA4.sk8 zA4.xs8 (fun {R} => zA4.l8 (R := R) N)) (id := 8) (by kernel_rfl) (by kernel_rfl) (zA4.o8 N), ⟨loopOne (L0 := loopCon N zA4.sk10 zA4.xs10 (fun {R} => zA4.l10 (R := R) N)) (id := 10) (by kernel_rfl) (by kernel_rfl) (zA4.o10 N), ⟨loopOne (L0 := loopCon N zA4.sk14 zA4.xs14 (fun {R} => zA4.l14 (R := R) N)) (id := 14) (by kernel_rfl) (by kernel_rfl) (zA4.o14 N), ⟨loopOne (L0 := loopCon N zA4.sk16 zA4.xs16 (fun {R} => zA4.l16 (R := R) N)) (id := 16) (by kernel_rfl) (by kernel_rfl) (zA4.o16 N), ⟨loopOne (L0 := loopCon N zA4.sk28 zA4.xs28 (fun {R} => zA4.l28 (R := R) N)) (id := 28) (by kernel_rfl) (by kernel_rfl) (zA4.o28 N), trivial⟩⟩⟩⟩⟩
theorem zA4.q28 {R R' : Type} {N n : Nat} {d} {k} {g : R → Option R'} : bindF (loopP (zA4.l28 N) n d k) g = loopP (zA4.l28 N) n d fun e => bindF (k e) g := bindF_loopP (fun d kn kx => by simp only [zA4.l28, bindF_ifB, bindF_bindO, bindF_pure, bindF_none, bindF_onSum]) n d k
theorem zA4.q16 {R R' : Type} {N n : Nat} {d} {k} {g : R → Option R'} : bindF (loopP (zA4.l16 N) n d k) g = loopP (zA4.l16 N) n d fun e => bindF (k e) g := bindF_loopP (fun d kn kx => by simp only [zA4.l16, bindF_ifB, bindF_bindO, bindF_pure, bindF_none, bindF_onSum]) n d k
theorem zA4.q14 {R R' : Type} {N n : Nat} {d} {k} {g : R → Option R'} : bindF (loopP (zA4.l14 N) n d k) g = loopP (zA4.l14 N) n d fun e => bindF (k e) g := bindF_loopP (fun d kn kx => by simp only [zA4.l14, bindF_ifB, bindF_bindO, bindF_pure, bindF_none, bindF_onSum]) n d k
theorem zA4.q10 {R R' : Type} {N n : Nat} {d} {k} {g : R → Option R'} : bindF (loopP (zA4.l10 N) n d k) g = loopP (zA4.l10 N) n d fun e => bindF (k e) g := bindF_loopP (fun d kn kx => by simp only [zA4.l10, bindF_ifB, bindF_bindO, bindF_pure, bindF_none, bindF_onSum]) n d k
theorem zA4.q8 {R R' : Type} {N n : Nat} {d} {k} {g : R → Option R'} : bindF (loopP (zA4.l8 N) n d k) g = loopP (zA4.l8 N) n d fun e => bindF (k e) g := bindF_loopP (fun d kn kx => by simp only [zA4.l8, bindF_ifB, bindF_bindO, bindF_pure, bindF_none, bindF_onSum]) n d k
theorem zA4.b (N : Nat) (x0 : den s24) (x1 : den (.int .i64)) (x2 : den (.int .i64)) (x3 : den (.int .i64)) : body (zA4.cfg N) N Tryz.f94 [.one, .one, .one, .one] [.v, .v, .v, .v] [(false, .imm)] [⟨s24, .imm, x0⟩, ⟨(.int .i64), .imm, x1⟩, ⟨(.int .i64), .imm, x2⟩, ⟨(.int .i64), .imm, x3⟩] (fun r i => some (r, i)) = bindO (zA4 N x0 x1 x2 x3) fun r => some ([⟨(.int .i64), .imm, r⟩], []) := by
  show _ = bindF _ _
  conv => rhs; simp only [zA4, bindF_ifB, bindF_bindO, bindF_pure, bindF_none, bindF_onSum, zA4.q8, zA4.q10, zA4.q14, zA4.q16, zA4.q28]
  kernel_rfl
theorem zA4.ok (N : Nat) : ConOk Tryz.prog 94 [.one, .one, .one, .one] (zA4.con N) := ok4 (g := zA4.cfg N) (N := N) (res := [(false, .imm)]) tys_ok (zA4.cons N) mixed Tryz.func94 (zA4.ls N) rfl (zA4.b N)
theorem zA4.det (N : Nat) : ConDet (zA4.con N) := det4
def zB2.sk10 : Skel := ⟨dd 1 (.pv (.int .i64) :: (.pv (.int .i64) :: (.pv (.int .i64) :: (.ptr 50 [] :: (dd 5 (.pv (.int .i64) :: (dd 56 []))))))), [⟨50, s24, .imm, true, false⟩]⟩
def zB2.xs10 : List XS := [⟨.exit 0, [10], ⟨dd 10 (.pv (.int .i64) :: (dd 56 [])), []⟩⟩]
def zB2.con (N : Nat) : Con := { modes := [.v, .v, .v, .v], ptrs := [false], fn := fn4 s24 .imm (.int .i64) .imm (.int .i64) .imm (.int .i64) .imm (zB2 N) (fun r => [⟨(.int .i64), .imm, r⟩]) (fun r => []) }
def zB2.cfg (N : Nat) : Cfg := { ty := tys, keep := [12, 39, 54, 65], flt := [], elm := elm0, live := [(10, [1, 2, 3, 4, 10])], ord := [], con := [((5, [.one]), zB6.con N), ((92, [.one, .one]), zAX.con N), ((93, [.one, .one]), zAZ.con N), ((94, [.one, .one, .one, .one]), zA4.con N)], loops := [(10, loopCon N zB2.sk10 zB2.xs10 (fun {R} => zB2.l10 (R := R) N))], joins := [] }
theorem zB2.cons (N : Nat) : ConsOk Tryz.prog (zB2.cfg N).con := (consOk_cons (hb5) (zB6.ok N) (zB6.det N) (consOk_cons (hb92) (zAX.ok N) (zAX.det N) (consOk_cons (hb93) (zAZ.ok N) (zAZ.det N) (consOk_cons (hb94) (zA4.ok N) (zA4.det N) consOk_nil))))
theorem zB2.h10 {R : Type} (N : Nat) (d : zB2.sk10.D) (kn : zB2.sk10.D → Option R) (kx : XD zB2.xs10 → Option R) : roundK (zB2.cfg N) N (nthLoop (fnBody Tryz.f78) 0) zB2.sk10 zB2.xs10 d kn kx = zB2.l10 N d kn kx := by kernel_rfl
theorem zB2.i10 (N : Nat) : LoopsOk Tryz.prog (zB2.cfg N) (nthLoop (fnBody Tryz.f78) 0) := loopsL (l := []) (by kernel_rfl) trivial
theorem zB2.o10 (N : Nat) : LoopOk Tryz.prog (nthLoop (fnBody Tryz.f78) 0) (loopCon N zB2.sk10 zB2.xs10 (fun {R} => zB2.l10 (R := R) N)) := loop_ok (g := zB2.cfg N) tys_ok (zB2.cons N) mixed (zB2.i10 N) (fun d kn kx => zB2.h10 N d kn kx)
theorem zB2.ls (N : Nat) : LoopsOk Tryz.prog (zB2.cfg N) (fnBody Tryz.f78) := loopsL (l := [nthLoop (fnBody Tryz.f78) 0]) (by kernel_rfl) ⟨loopOne (L0 := loopCon N zB2.sk10 zB2.xs10 (fun {R} => zB2.l10 (R := R) N)) (id := 10) (by kernel_rfl) (by kernel_rfl) (zB2.o10 N), trivial⟩
theorem zB2.q10 {R R' : Type} {N n : Nat} {d} {k} {g : R → Option R'} : bindF (loopP (zB2.l10 N) n d k) g = loopP (zB2.l10 N) n d fun e => bindF (k e) g := bindF_loopP (fun d kn kx => by simp only [zB2.l10, bindF_ifB, bindF_bindO, bindF_pure, bindF_none, bindF_onSum]) n d k
theorem zB2.b (N : Nat) (x0 : den s24) (x1 : den (.int .i64)) (x2 : den (.int .i64)) (x3 : den (.int .i64)) : body (zB2.cfg N) N Tryz.f78 [.one, .one, .one, .one] [.v, .v, .v, .v] [(false, .imm)] [⟨s24, .imm, x0⟩, ⟨(.int .i64), .imm, x1⟩, ⟨(.int .i64), .imm, x2⟩, ⟨(.int .i64), .imm, x3⟩] (fun r i => some (r, i)) = bindO (zB2 N x0 x1 x2 x3) fun r => some ([⟨(.int .i64), .imm, r⟩], []) := by
  show _ = bindF _ _
  conv => rhs; simp only [zB2, bindF_ifB, bindF_bindO, bindF_pure, bindF_none, bindF_onSum, zB2.q10]
  kernel_rfl
theorem zB2.ok (N : Nat) : ConOk Tryz.prog 78 [.one, .one, .one, .one] (zB2.con N) := ok4 (g := zB2.cfg N) (N := N) (res := [(false, .imm)]) tys_ok (zB2.cons N) mixed Tryz.func78 (zB2.ls N) rfl (zB2.b N)
theorem zB2.det (N : Nat) : ConDet (zB2.con N) := det4
def zCD.con (N : Nat) : Con := { modes := [.v, .v], ptrs := [false], fn := fn2 s27 .imm s23 .imm (zCD N) (fun r => [⟨s27, (.pr (.own (.own .imm)) .imm), r⟩]) (fun r => []) }
def zCD.cfg (N : Nat) : Cfg := { ty := tys, keep := [11, 15, 24, 26, 30], flt := [], elm := elm0, live := [], ord := [(5, [8, 0, 3, 4, 1, 2, 5, 6, 7, 9])], con := [((6, [.one]), zB7.con N), ((19, [.one]), zAH.con N), ((53, [.one]), zBN.con N), ((75, [.one]), zBD.con N), ((76, [.one]), zAL.con N)], loops := [], joins := [] }
theorem zCD.cons (N : Nat) : ConsOk Tryz.prog (zCD.cfg N).con := (consOk_cons (hb6) (zB7.ok N) (zB7.det N) (consOk_cons (hb19) (zAH.ok N) (zAH.det N) (consOk_cons (hb53) (zBN.ok N) (zBN.det N) (consOk_cons (hb75) (zBD.ok N) (zBD.det N) (consOk_cons (hb76) (zAL.ok N) (zAL.det N) consOk_nil)))))
theorem zCD.ls (N : Nat) : LoopsOk Tryz.prog (zCD.cfg N) (fnBody Tryz.f95) := loopsL (l := []) (by kernel_rfl) trivial
theorem zCD.b (N : Nat) (x0 : den s27) (x1 : den s23) : body (zCD.cfg N) N Tryz.f95 [.one, .one] [.v, .v] [(false, (.pr (.own (.own .imm)) .imm))] [⟨s27, .imm, x0⟩, ⟨s23, .imm, x1⟩] (fun r i => some (r, i)) = bindO (zCD N x0 x1) fun r => some ([⟨s27, (.pr (.own (.own .imm)) .imm), r⟩], []) := by
  show _ = bindF _ _
  conv => rhs; simp only [zCD, bindF_ifB, bindF_bindO, bindF_pure, bindF_none, bindF_onSum]
  kernel_rfl
theorem zCD.ok (N : Nat) : ConOk Tryz.prog 95 [.one, .one] (zCD.con N) := ok2 (g := zCD.cfg N) (N := N) (res := [(false, (.pr (.own (.own .imm)) .imm))]) tys_ok (zCD.cons N) mixed Tryz.func95 (zCD.ls N) rfl (zCD.b N)
theorem zCD.det (N : Nat) : ConDet (zCD.con N) := det2
def zC4.con (N : Nat) : Con := { modes := [.v, .v, .v, .v], ptrs := [false], fn := fn4 (.int .i64) .imm (.int .i64) .imm (.int .i64) .imm (.int .i64) .imm (zC4 N) (fun r => [⟨(.int .i64), .imm, r⟩]) (fun r => []) }
def zC4.cfg (N : Nat) : Cfg := { ty := tys, keep := [], flt := [], elm := elm0, live := [], ord := [], con := [], loops := [], joins := [] }
theorem zC4.cons (N : Nat) : ConsOk Tryz.prog (zC4.cfg N).con := consOk_nil
theorem zC4.ls (N : Nat) : LoopsOk Tryz.prog (zC4.cfg N) (fnBody Tryz.f81) := loopsL (l := []) (by kernel_rfl) trivial
theorem zC4.b (N : Nat) (x0 : den (.int .i64)) (x1 : den (.int .i64)) (x2 : den (.int .i64)) (x3 : den (.int .i64)) : body (zC4.cfg N) N Tryz.f81 [.one, .one, .one, .one] [.v, .v, .v, .v] [(false, .imm)] [⟨(.int .i64), .imm, x0⟩, ⟨(.int .i64), .imm, x1⟩, ⟨(.int .i64), .imm, x2⟩, ⟨(.int .i64), .imm, x3⟩] (fun r i => some (r, i)) = bindO (zC4 N x0 x1 x2 x3) fun r => some ([⟨(.int .i64), .imm, r⟩], []) := by
  show _ = bindF _ _
  conv => rhs; simp only [zC4, bindF_ifB, bindF_bindO, bindF_pure, bindF_none, bindF_onSum]
  kernel_rfl
theorem zC4.ok (N : Nat) : ConOk Tryz.prog 81 [.one, .one, .one, .one] (zC4.con N) := ok4 (g := zC4.cfg N) (N := N) (res := [(false, .imm)]) tys_ok (zC4.cons N) mixed Tryz.func81 (zC4.ls N) rfl (zC4.b N)
theorem zC4.det (N : Nat) : ConDet (zC4.con N) := det4
def zBA.con (N : Nat) : Con := { modes := [.v, .v, .v, .v], ptrs := [false], fn := fn4 s24 .imm (.int .i64) .imm (.int .i64) .imm s23 .imm (zBA N) (fun r => [⟨s83, (.pr (.pr (.own .imm) .imm) (.pr (.own .imm) .imm)), r⟩]) (fun r => []) }
def zBA.cfg (N : Nat) : Cfg := { ty := tys, keep := [18, 22, 63, 69, 75, 103], flt := [], elm := elm0, live := [], ord := [(12, [13, 0, 1, 2, 3, 4, 6, 7, 8, 9, 10, 5, 11, 12, 14]), (13, [0, 1, 2, 3, 5, 7, 8, 9, 10, 4, 6, 11, 12, 13]), (16, [0, 1, 2, 3, 4, 5, 6, 7, 8])], con := [((5, [.one]), zB6.con N), ((19, [.one]), zAH.con N), ((81, [.one, .one, .one, .one]), zC4.con N), ((75, [.one]), zBD.con N)], loops := [], joins := [] }
theorem zBA.cons (N : Nat) : ConsOk Tryz.prog (zBA.cfg N).con := (consOk_cons (hb5) (zB6.ok N) (zB6.det N) (consOk_cons (hb19) (zAH.ok N) (zAH.det N) (consOk_cons (hb81) (zC4.ok N) (zC4.det N) (consOk_cons (hb75) (zBD.ok N) (zBD.det N) consOk_nil))))
theorem zBA.ls (N : Nat) : LoopsOk Tryz.prog (zBA.cfg N) (fnBody Tryz.f57) := loopsL (l := []) (by kernel_rfl) trivial
theorem zBA.b (N : Nat) (x0 : den s24) (x1 : den (.int .i64)) (x2 : den (.int .i64)) (x3 : den s23) : body (zBA.cfg N) N Tryz.f57 [.one, .one, .one, .one] [.v, .v, .v, .v] [(false, (.pr (.pr (.own .imm) .imm) (.pr (.own .imm) .imm)))] [⟨s24, .imm, x0⟩, ⟨(.int .i64), .imm, x1⟩, ⟨(.int .i64), .imm, x2⟩, ⟨s23, .imm, x3⟩] (fun r i => some (r, i)) = bindO (zBA N x0 x1 x2 x3) fun r => some ([⟨s83, (.pr (.pr (.own .imm) .imm) (.pr (.own .imm) .imm)), r⟩], []) := by
  show _ = bindF _ _
  conv => rhs; simp only [zBA, bindF_ifB, bindF_bindO, bindF_pure, bindF_none, bindF_onSum]
  kernel_rfl
theorem zBA.ok (N : Nat) : ConOk Tryz.prog 57 [.one, .one, .one, .one] (zBA.con N) := ok4 (g := zBA.cfg N) (N := N) (res := [(false, (.pr (.pr (.own .imm) .imm) (.pr (.own .imm) .imm)))]) tys_ok (zBA.cons N) mixed Tryz.func57 (zBA.ls N) rfl (zBA.b N)
theorem zBA.det (N : Nat) : ConDet (zBA.con N) := det4
def zBZ.con (N : Nat) : Con := { modes := [.v, .v, .v], ptrs := [false], fn := fn3 s24 .imm (.int .i64) .imm (.int .i64) .imm (zBZ N) (fun r => [⟨s83, (.pr (.pr (.own .imm) .imm) (.pr (.own .imm) .imm)), r⟩]) (fun r => []) }
def zBZ.cfg (N : Nat) : Cfg := { ty := tys, keep := [11], flt := [], elm := elm0, live := [], ord := [], con := [((57, [.one, .one, .one, .one]), zBA.con N)], loops := [], joins := [] }
theorem zBZ.cons (N : Nat) : ConsOk Tryz.prog (zBZ.cfg N).con := (consOk_cons (hb57) (zBA.ok N) (zBA.det N) consOk_nil)
theorem zBZ.ls (N : Nat) : LoopsOk Tryz.prog (zBZ.cfg N) (fnBody Tryz.f96) := loopsL (l := []) (by kernel_rfl) trivial
theorem zBZ.b (N : Nat) (x0 : den s24) (x1 : den (.int .i64)) (x2 : den (.int .i64)) : body (zBZ.cfg N) N Tryz.f96 [.one, .one, .one] [.v, .v, .v] [(false, (.pr (.pr (.own .imm) .imm) (.pr (.own .imm) .imm)))] [⟨s24, .imm, x0⟩, ⟨(.int .i64), .imm, x1⟩, ⟨(.int .i64), .imm, x2⟩] (fun r i => some (r, i)) = bindO (zBZ N x0 x1 x2) fun r => some ([⟨s83, (.pr (.pr (.own .imm) .imm) (.pr (.own .imm) .imm)), r⟩], []) := by
  show _ = bindF _ _
  conv => rhs; simp only [zBZ, bindF_ifB, bindF_bindO, bindF_pure, bindF_none, bindF_onSum]
  kernel_rfl
theorem zBZ.ok (N : Nat) : ConOk Tryz.prog 96 [.one, .one, .one] (zBZ.con N) := ok3 (g := zBZ.cfg N) (N := N) (res := [(false, (.pr (.pr (.own .imm) .imm) (.pr (.own .imm) .imm)))]) tys_ok (zBZ.cons N) mixed Tryz.func96 (zBZ.ls N) rfl (zBZ.b N)
theorem zBZ.det (N : Nat) : ConDet (zBZ.con N) := det3
def zCH.con (N : Nat) : Con := { modes := [.v, .v, .v, .v, .v], ptrs := [false, false], fn := fn5 s24 .imm s27 .imm (.int .i64) .imm (.int .i64) .imm .bool .imm (zCH N) (fun r => [⟨s24, (.pr (.own .imm) .imm), r.1⟩, ⟨s27, (.pr (.own (.own .imm)) .imm), r.2⟩]) (fun r => []) }
def zCH.cfg (N : Nat) : Cfg := { ty := tys, keep := [22, 24, 29], flt := [], elm := elm0, live := [], ord := [(7, [0, 1, 2, 3])], con := [((95, [.one, .one]), zCD.con N), ((52, [.one]), zBW.con N), ((96, [.one, .one, .one]), zBZ.con N)], loops := [], joins := [] }
theorem zCH.cons (N : Nat) : ConsOk Tryz.prog (zCH.cfg N).con := (consOk_cons (hb95) (zCD.ok N) (zCD.det N) (consOk_cons (hb52) (zBW.ok N) (zBW.det N) (consOk_cons (hb96) (zBZ.ok N) (zBZ.det N) consOk_nil)))
theorem zCH.ls (N : Nat) : LoopsOk Tryz.prog (zCH.cfg N) (fnBody Tryz.f79) := loopsL (l := []) (by kernel_rfl) trivial
theorem zCH.b (N : Nat) (x0 : den s24) (x1 : den s27) (x2 : den (.int .i64)) (x3 : den (.int .i64)) (x4 : den .bool) : body (zCH.cfg N) N Tryz.f79 [.one, .one, .one, .one, .one] [.v, .v, .v, .v, .v] [(false, (.pr (.own .imm) .imm)), (false, (.pr (.own (.own .imm)) .imm))] [⟨s24, .imm, x0⟩, ⟨s27, .imm, x1⟩, ⟨(.int .i64), .imm, x2⟩, ⟨(.int .i64), .imm, x3⟩, ⟨.bool, .imm, x4⟩] (fun r i => some (r, i)) = bindO (zCH N x0 x1 x2 x3 x4) fun r => some ([⟨s24, (.pr (.own .imm) .imm), r.1⟩, ⟨s27, (.pr (.own (.own .imm)) .imm), r.2⟩], []) := by
  show _ = bindF _ _
  conv => rhs; simp only [zCH, bindF_ifB, bindF_bindO, bindF_pure, bindF_none, bindF_onSum]
  kernel_rfl
theorem zCH.ok (N : Nat) : ConOk Tryz.prog 79 [.one, .one, .one, .one, .one] (zCH.con N) := ok5 (g := zCH.cfg N) (N := N) (res := [(false, (.pr (.own .imm) .imm)), (false, (.pr (.own (.own .imm)) .imm))]) tys_ok (zCH.cons N) mixed Tryz.func79 (zCH.ls N) rfl (zCH.b N)
theorem zCH.det (N : Nat) : ConDet (zCH.con N) := det5
def zBC.con (N : Nat) : Con := { modes := [.v, .v, .v, .v, .v], ptrs := [false], fn := fn5 s24 .imm s27 .imm (.int .u8) .imm (.int .u8) .imm (.int .i64) .imm (zBC N) (fun r => [⟨s35, .imm, r⟩]) (fun r => []) }
def zBC.cfg (N : Nat) : Cfg := { ty := tys, keep := [], flt := [], elm := elm0, live := [], ord := [(10, [14, 15, 0, 1, 2, 3, 5, 6, 8, 9, 4, 7, 10, 11, 12, 13, 16, 17])], con := [((77, [.one]), zAY.con N), ((60, [.one, .one]), zAK.con N), ((59, [.one, .one]), zAV.con N), ((78, [.one, .one, .one, .one]), zB2.con N), ((56, [.one, .one]), zBL.con N), ((51, [.one, .one]), zBR.con N), ((79, [.one, .one, .one, .one, .one]), zCH.con N)], loops := [], joins := [(10, [⟨.normal, [2, 5, 6, 10, 11, 12], ⟨dd 2 (.pv (.int .u8) :: (dd 2 (.ptr 50 [] :: (.ptr 51 [] :: (dd 3 (.ptr 52 [] :: (.pv (.int .i64) :: (.pv (.int .i64) :: (dd 53 []))))))))), [⟨50, s24, .imm, true, false⟩, ⟨51, s27, .imm, true, false⟩, ⟨52, s35, (.pr (.pr (.own .imm) .imm) (.pr (.pr (.own (.own .imm)) .imm) .imm)), true, false⟩]⟩⟩, ⟨.ret, [10], ⟨dd 10 (.ptr 50 [] :: (dd 55 [])), [⟨50, s35, (.pr (.pr (.own .imm) .imm) (.pr (.pr (.own (.own .imm)) .imm) .imm)), true, false⟩]⟩⟩])] }
theorem zBC.cons (N : Nat) : ConsOk Tryz.prog (zBC.cfg N).con := (consOk_cons (hb77) (zAY.ok N) (zAY.det N) (consOk_cons (hb60) (zAK.ok N) (zAK.det N) (consOk_cons (hb59) (zAV.ok N) (zAV.det N) (consOk_cons (hb78) (zB2.ok N) (zB2.det N) (consOk_cons (hb56) (zBL.ok N) (zBL.det N) (consOk_cons (hb51) (zBR.ok N) (zBR.det N) (consOk_cons (hb79) (zCH.ok N) (zCH.det N) consOk_nil)))))))
theorem zBC.ls (N : Nat) : LoopsOk Tryz.prog (zBC.cfg N) (fnBody Tryz.f54) := loopsL (l := []) (by kernel_rfl) trivial
theorem zBC.b (N : Nat) (x0 : den s24) (x1 : den s27) (x2 : den (.int .u8)) (x3 : den (.int .u8)) (x4 : den (.int .i64)) : body (zBC.cfg N) N Tryz.f54 [.one, .one, .one, .one, .one] [.v, .v, .v, .v, .v] [(false, .imm)] [⟨s24, .imm, x0⟩, ⟨s27, .imm, x1⟩, ⟨(.int .u8), .imm, x2⟩, ⟨(.int .u8), .imm, x3⟩, ⟨(.int .i64), .imm, x4⟩] (fun r i => some (r, i)) = bindO (zBC N x0 x1 x2 x3 x4) fun r => some ([⟨s35, .imm, r⟩], []) := by
  show _ = bindF _ _
  conv => rhs; simp only [zBC, bindF_ifB, bindF_bindO, bindF_pure, bindF_none, bindF_onSum]
  kernel_rfl
theorem zBC.ok (N : Nat) : ConOk Tryz.prog 54 [.one, .one, .one, .one, .one] (zBC.con N) := ok5 (g := zBC.cfg N) (N := N) (res := [(false, .imm)]) tys_ok (zBC.cons N) mixed Tryz.func54 (zBC.ls N) rfl (zBC.b N)
theorem zBC.det (N : Nat) : ConDet (zBC.con N) := det5
def zCM.con (N : Nat) : Con := { modes := [.v], ptrs := [false], fn := fn1 s27 .imm (zCM N) (fun r => [⟨s23, (.own .imm), r⟩]) (fun r => []) }
def zCM.cfg (N : Nat) : Cfg := { ty := tys, keep := [4, 19], flt := [], elm := elm0, live := [], ord := [], con := [((6, [.one]), zB7.con N), ((75, [.one]), zBD.con N)], loops := [], joins := [] }
theorem zCM.cons (N : Nat) : ConsOk Tryz.prog (zCM.cfg N).con := (consOk_cons (hb6) (zB7.ok N) (zB7.det N) (consOk_cons (hb75) (zBD.ok N) (zBD.det N) consOk_nil))
theorem zCM.ls (N : Nat) : LoopsOk Tryz.prog (zCM.cfg N) (fnBody Tryz.f97) := loopsL (l := []) (by kernel_rfl) trivial
theorem zCM.b (N : Nat) (x0 : den s27) : body (zCM.cfg N) N Tryz.f97 [.one] [.v] [(false, (.own .imm))] [⟨s27, .imm, x0⟩] (fun r i => some (r, i)) = bindO (zCM N x0) fun r => some ([⟨s23, (.own .imm), r⟩], []) := by
  show _ = bindF _ _
  conv => rhs; simp only [zCM, bindF_ifB, bindF_bindO, bindF_pure, bindF_none, bindF_onSum]
  kernel_rfl
theorem zCM.ok (N : Nat) : ConOk Tryz.prog 97 [.one] (zCM.con N) := ok1 (g := zCM.cfg N) (N := N) (res := [(false, (.own .imm))]) tys_ok (zCM.cons N) mixed Tryz.func97 (zCM.ls N) rfl (zCM.b N)
theorem zCM.det (N : Nat) : ConDet (zCM.con N) := det1
def zC2.con (N : Nat) : Con := { modes := [.v, .v], ptrs := [false], fn := fn2 s24 .imm s23 .imm (zC2 N) (fun r => [⟨s83, (.pr (.pr (.own .imm) .imm) (.pr (.own .imm) .imm)), r⟩]) (fun r => []) }
def zC2.cfg (N : Nat) : Cfg := { ty := tys, keep := [11], flt := [], elm := elm0, live := [], ord := [], con := [((57, [.one, .one, .one, .one]), zBA.con N)], loops := [], joins := [] }
theorem zC2.cons (N : Nat) : ConsOk Tryz.prog (zC2.cfg N).con := (consOk_cons (hb57) (zBA.ok N) (zBA.det N) consOk_nil)
theorem zC2.ls (N : Nat) : LoopsOk Tryz.prog (zC2.cfg N) (fnBody Tryz.f98) := loopsL (l := []) (by kernel_rfl) trivial
theorem zC2.b (N : Nat) (x0 : den s24) (x1 : den s23) : body (zC2.cfg N) N Tryz.f98 [.one, .one] [.v, .v] [(false, (.pr (.pr (.own .imm) .imm) (.pr (.own .imm) .imm)))] [⟨s24, .imm, x0⟩, ⟨s23, .imm, x1⟩] (fun r i => some (r, i)) = bindO (zC2 N x0 x1) fun r => some ([⟨s83, (.pr (.pr (.own .imm) .imm) (.pr (.own .imm) .imm)), r⟩], []) := by
  show _ = bindF _ _
  conv => rhs; simp only [zC2, bindF_ifB, bindF_bindO, bindF_pure, bindF_none, bindF_onSum]
  kernel_rfl
theorem zC2.ok (N : Nat) : ConOk Tryz.prog 98 [.one, .one] (zC2.con N) := ok2 (g := zC2.cfg N) (N := N) (res := [(false, (.pr (.pr (.own .imm) .imm) (.pr (.own .imm) .imm)))]) tys_ok (zC2.cons N) mixed Tryz.func98 (zC2.ls N) rfl (zC2.b N)
theorem zC2.det (N : Nat) : ConDet (zC2.con N) := det2
def zC9.con (N : Nat) : Con := { modes := [.v, .v], ptrs := [false], fn := fn2 s27 .imm s24 .imm (zC9 N) (fun r => [⟨s77, (.pr (.pr (.own .imm) .imm) .imm), r⟩]) (fun r => []) }
def zC9.cfg (N : Nat) : Cfg := { ty := tys, keep := [8, 12, 22, 25], flt := [], elm := elm0, live := [], ord := [], con := [((6, [.one]), zB7.con N), ((5, [.one]), zB6.con N), ((97, [.one]), zCM.con N), ((98, [.one, .one]), zC2.con N)], loops := [], joins := [] }
theorem zC9.cons (N : Nat) : ConsOk Tryz.prog (zC9.cfg N).con := (consOk_cons (hb6) (zB7.ok N) (zB7.det N) (consOk_cons (hb5) (zB6.ok N) (zB6.det N) (consOk_cons (hb97) (zCM.ok N) (zCM.det N) (consOk_cons (hb98) (zC2.ok N) (zC2.det N) consOk_nil))))
theorem zC9.ls (N : Nat) : LoopsOk Tryz.prog (zC9.cfg N) (fnBody Tryz.f80) := loopsL (l := []) (by kernel_rfl) trivial
theorem zC9.b (N : Nat) (x0 : den s27) (x1 : den s24) : body (zC9.cfg N) N Tryz.f80 [.one, .one] [.v, .v] [(false, (.pr (.pr (.own .imm) .imm) .imm))] [⟨s27, .imm, x0⟩, ⟨s24, .imm, x1⟩] (fun r i => some (r, i)) = bindO (zC9 N x0 x1) fun r => some ([⟨s77, (.pr (.pr (.own .imm) .imm) .imm), r⟩], []) := by
  show _ = bindF _ _
  conv => rhs; simp only [zC9, bindF_ifB, bindF_bindO, bindF_pure, bindF_none, bindF_onSum]
  kernel_rfl
theorem zC9.ok (N : Nat) : ConOk Tryz.prog 80 [.one, .one] (zC9.con N) := ok2 (g := zC9.cfg N) (N := N) (res := [(false, (.pr (.pr (.own .imm) .imm) .imm))]) tys_ok (zC9.cons N) mixed Tryz.func80 (zC9.ls N) rfl (zC9.b N)
theorem zC9.det (N : Nat) : ConDet (zC9.con N) := det2
def zB3.sk4 : Skel := ⟨dd 3 (.pv (.int .i64) :: (dd 1 (.ptr 50 [] :: (dd 2 (.ptr 51 [] :: (.ptr 52 [] :: (dd 35 []))))))), [⟨50, s27, .imm, true, false⟩, ⟨51, s35, (.pr (.pr (.own .imm) .imm) (.pr (.pr (.own (.own .imm)) .imm) .imm)), true, false⟩, ⟨52, s24, (.pr (.own .imm) .imm), true, false⟩]⟩
def zB3.xs4 : List XS := [⟨.exit 0, [5, 8, 9], ⟨dd 5 (.ptr 50 [] :: (dd 2 (.ptr 51 [] :: (.ptr 52 [] :: (dd 35 []))))), [⟨50, s27, .imm, true, false⟩, ⟨51, s35, (.pr (.pr (.own .imm) .imm) (.pr (.pr (.own (.own .imm)) .imm) .imm)), true, false⟩, ⟨52, s24, (.pr (.own .imm) .imm), true, false⟩]⟩⟩, ⟨.ret, [8], ⟨dd 8 (.ptr 50 [] :: (dd 36 [])), [⟨50, s35, (.pr (.pr (.own .imm) .imm) (.pr (.pr (.own (.own .imm)) .imm) .imm)), true, false⟩]⟩⟩]
def zB3.con (N : Nat) : Con := { modes := [.v, .v, .v, .v], ptrs := [false], fn := fn4 s24 .imm s27 .imm .bool .imm (.int .i64) .imm (zB3 N) (fun r => [⟨s35, (.pr (.pr (.own .imm) .imm) (.pr (.pr (.own (.own .imm)) .imm) .imm)), r⟩]) (fun r => []) }
def zB3.cfg (N : Nat) : Cfg := { ty := tys, keep := [12, 32, 43], flt := [], elm := elm0, live := [(4, [3, 5, 8, 9])], ord := [(10, [0, 1, 2, 3, 4])], con := [((52, [.one]), zBW.con N), ((80, [.one, .one]), zC9.con N), ((53, [.one]), zBN.con N)], loops := [(4, loopCon N zB3.sk4 zB3.xs4 (fun {R} => zB3.l4 (R := R) N))], joins := [] }
theorem zB3.cons (N : Nat) : ConsOk Tryz.prog (zB3.cfg N).con := (consOk_cons (hb52) (zBW.ok N) (zBW.det N) (consOk_cons (hb80) (zC9.ok N) (zC9.det N) (consOk_cons (hb53) (zBN.ok N) (zBN.det N) consOk_nil)))
theorem zB3.h4 {R : Type} (N : Nat) (d : zB3.sk4.D) (kn : zB3.sk4.D → Option R) (kx : XD zB3.xs4 → Option R) : roundK (zB3.cfg N) N (nthLoop (fnBody Tryz.f55) 0) zB3.sk4 zB3.xs4 d kn kx = zB3.l4 N d kn kx := by kernel_rfl
theorem zB3.i4 (N : Nat) : LoopsOk Tryz.prog (zB3.cfg N) (nthLoop (fnBody Tryz.f55) 0) := loopsL (l := []) (by kernel_rfl) trivial
theorem zB3.o4 (N : Nat) : LoopOk Tryz.prog (nthLoop (fnBody Tryz.f55) 0) (loopCon N zB3.sk4 zB3.xs4 (fun {R} => zB3.l4 (R := R) N)) := loop_ok (g := zB3.cfg N) tys_ok (zB3.cons N) mixed (zB3.i4 N) (fun d kn kx => zB3.h4 N d kn kx)
theorem zB3.ls (N : Nat) : LoopsOk Tryz.prog (zB3.cfg N) (fnBody Tryz.f55) := loopsL (l := [nthLoop (fnBody Tryz.f55) 0]) (by kernel_rfl) ⟨loopOne (L0 := loopCon N zB3.sk4 zB3.xs4 (fun {R} => zB3.l4 (R := R) N)) (id := 4) (by kernel_rfl) (by kernel_rfl) (zB3.o4 N), trivial⟩
theorem zB3.q4 {R R' : Type} {N n : Nat} {d} {k} {g : R → Option R'} : bindF (loopP (zB3.l4 N) n d k) g = loopP (zB3.l4 N) n d fun e => bindF (k e) g := bindF_loopP (fun d kn kx => by simp only [zB3.l4, bindF_ifB, bindF_bindO, bindF_pure, bindF_none, bindF_onSum]) n d k
theorem zB3.b (N : Nat) (x0 : den s24) (x1 : den s27) (x2 : den .bool) (x3 : den (.int .i64)) : body (zB3.cfg N) N Tryz.f55 [.one, .one, .one, .one] [.v, .v, .v, .v] [(false, (.pr (.pr (.own .imm) .imm) (.pr (.pr (.own (.own .imm)) .imm) .imm)))] [⟨s24, .imm, x0⟩, ⟨s27, .imm, x1⟩, ⟨.bool, .imm, x2⟩, ⟨(.int .i64), .imm, x3⟩] (fun r i => some (r, i)) = bindO (zB3 N x0 x1 x2 x3) fun r => some ([⟨s35, (.pr (.pr (.own .imm) .imm) (.pr (.pr (.own (.own .imm)) .imm) .imm)), r⟩], []) := by
  show _ = bindF _ _
  conv => rhs; simp only [zB3, bindF_ifB, bindF_bindO, bindF_pure, bindF_none, bindF_onSum, zB3.q4]
  kernel_rfl
theorem zB3.ok (N : Nat) : ConOk Tryz.prog 55 [.one, .one, .one, .one] (zB3.con N) := ok4 (g := zB3.cfg N) (N := N) (res := [(false, (.pr (.pr (.own .imm) .imm) (.pr (.pr (.own (.own .imm)) .imm) .imm)))]) tys_ok (zB3.cons N) mixed Tryz.func55 (zB3.ls N) rfl (zB3.b N)
theorem zB3.det (N : Nat) : ConDet (zB3.con N) := det4
end Go.AE.F
end
