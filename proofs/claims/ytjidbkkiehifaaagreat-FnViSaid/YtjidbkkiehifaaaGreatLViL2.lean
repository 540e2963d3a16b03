/- The printed functions are what the program comes to: contracts. -/
import Derived.Test.YtjidbkkiehifaaaGreatLViL1
noncomputable section
namespace Go.AE.F
open Go.AE Go.Proofs
set_option maxRecDepth 100000
def zAX.sk3 : Skel := ⟨dd 1 (.pv (.int .i64) :: (.ptr 50 [] :: (dd 1 (.ptr 51 [] :: (.pv (.int .i64) :: (.pv (.int .i64) :: (dd 20 []))))))), [⟨50, s24, .imm, true, false⟩, ⟨51, s102, .imm, true, false⟩]⟩
def zAX.xs3 : List XS := [⟨.exit 0, [1, 2, 4, 5], ⟨dd 1 (.pv (.int .i64) :: (.ptr 50 [] :: (dd 1 (.ptr 51 [] :: (.pv (.int .i64) :: (dd 21 [])))))), [⟨50, s24, .imm, true, false⟩, ⟨51, s102, .imm, true, false⟩]⟩⟩]
def zAX.con (N : Nat) : Con := { modes := [.v, .v], ptrs := [false], fn := fn2 s24 .imm (.int .i64) .imm (zAX N) (fun r => [⟨s102, .imm, r⟩]) (fun r => []) }
def zAX.cfg (N : Nat) : Cfg := { ty := tys, keep := [24], flt := [], elm := elm0, live := [(3, [1, 2, 4, 5, 6])], ord := [], con := [((73, [.one, .one]), zAK.con N)], loops := [(3, loopCon N zAX.sk3 zAX.xs3 (fun {R} => zAX.l3 (R := R) N))], joins := [(4, [⟨.normal, [1, 2, 4, 5, 6], ⟨dd 1 (.pv (.int .i64) :: (.ptr 50 [] :: (dd 1 (.ptr 51 [] :: (.pv (.int .i64) :: (.pv (.int .i64) :: (dd 20 []))))))), [⟨50, s24, .imm, true, false⟩, ⟨51, s102, .imm, true, false⟩]⟩⟩])] }
theorem zAX.cons (N : Nat) : ConsOk Tryz.prog (zAX.cfg N).con := (consOk_cons (hb73) (zAK.ok N) (zAK.det N) consOk_nil)
theorem zAX.h3 {R : Type} (N : Nat) (d : zAX.sk3.D) (kn : zAX.sk3.D → Option R) (kx : XD zAX.xs3 → Option R) : roundK (zAX.cfg N) N (nthLoop (fnBody Tryz.f96) 0) zAX.sk3 zAX.xs3 d kn kx = zAX.l3 N d kn kx := by kernel_rfl
theorem zAX.i3 (N : Nat) : LoopsOk Tryz.prog (zAX.cfg N) (nthLoop (fnBody Tryz.f96) 0) := loopsL (l := []) (by kernel_rfl) trivial
theorem zAX.o3 (N : Nat) : LoopOk Tryz.prog (nthLoop (fnBody Tryz.f96) 0) (loopCon N zAX.sk3 zAX.xs3 (fun {R} => zAX.l3 (R := R) N)) := loop_ok (g := zAX.cfg N) tys_ok (zAX.cons N) mixed (zAX.i3 N) (fun d kn kx => zAX.h3 N d kn kx)
theorem zAX.ls (N : Nat) : LoopsOk Tryz.prog (zAX.cfg N) (fnBody Tryz.f96) := loopsL (l := [nthLoop (fnBody Tryz.f96) 0]) (by kernel_rfl) ⟨loopOne (L0 := loopCon N zAX.sk3 zAX.xs3 (fun {R} => zAX.l3 (R := R) N)) (id := 3) (by kernel_rfl) (by kernel_rfl) (zAX.o3 N), trivial⟩
theorem zAX.q3 {R R' : Type} {N n : Nat} {d} {k} {g : R → Option R'} : bindF (loopP (zAX.l3 N) n d k) g = loopP (zAX.l3 N) n d fun e => bindF (k e) g := bindF_loopP (fun d kn kx => by simp only [zAX.l3, bindF_ifB, bindF_bindO, bindF_pure, bindF_none, bindF_onSum]) n d k
theorem zAX.b (N : Nat) (x0 : den s24) (x1 : den (.int .i64)) : body (zAX.cfg N) N Tryz.f96 [.one, .one] [.v, .v] [(false, .imm)] [⟨s24, .imm, x0⟩, ⟨(.int .i64), .imm, x1⟩] (fun r i => some (r, i)) = bindO (zAX N x0 x1) fun r => some ([⟨s102, .imm, r⟩], []) := by
  show _ = bindF _ _
  conv => rhs; simp only [zAX, bindF_ifB, bindF_bindO, bindF_pure, bindF_none, bindF_onSum, zAX.q3]
  kernel_rfl
theorem zAX.ok (N : Nat) : ConOk Tryz.prog 96 [.one, .one] (zAX.con N) := ok2 (g := zAX.cfg N) (N := N) (res := [(false, .imm)]) tys_ok (zAX.cons N) mixed Tryz.func96 (zAX.ls N) rfl (zAX.b N)
theorem zAX.det (N : Nat) : ConDet (zAX.con N) := det2
def zC8.con (N : Nat) : Con := { modes := [.v], ptrs := [false], fn := fn1 s24 .imm (zC8 N) (fun r => [⟨(.int .i64), .imm, r⟩]) (fun r => []) }
def zC8.cfg (N : Nat) : Cfg := { ty := tys, keep := [4, 10], flt := [], elm := elm0, live := [], ord := [], con := [((17, [.one]), zB9.con N), ((96, [.one, .one]), zAX.con N)], loops := [], joins := [] }
theorem zC8.cons (N : Nat) : ConsOk Tryz.prog (zC8.cfg N).con := (consOk_cons (hb17) (zB9.ok N) (zB9.det N) (consOk_cons (hb96) (zAX.ok N) (zAX.det N) consOk_nil))
theorem zC8.ls (N : Nat) : LoopsOk Tryz.prog (zC8.cfg N) (fnBody Tryz.f109) := loopsL (l := []) (by kernel_rfl) trivial
theorem zC8.b (N : Nat) (x0 : den s24) : body (zC8.cfg N) N Tryz.f109 [.one] [.v] [(false, .imm)] [⟨s24, .imm, x0⟩] (fun r i => some (r, i)) = bindO (zC8 N x0) fun r => some ([⟨(.int .i64), .imm, r⟩], []) := by
  show _ = bindF _ _
  conv => rhs; simp only [zC8, bindF_ifB, bindF_bindO, bindF_pure, bindF_none, bindF_onSum]
  kernel_rfl
theorem zC8.ok (N : Nat) : ConOk Tryz.prog 109 [.one] (zC8.con N) := ok1 (g := zC8.cfg N) (N := N) (res := [(false, .imm)]) tys_ok (zC8.cons N) mixed Tryz.func109 (zC8.ls N) rfl (zC8.b N)
theorem zC8.det (N : Nat) : ConDet (zC8.con N) := det1
def zBR.con (N : Nat) : Con := { modes := [.v, .v], ptrs := [false], fn := fn2 (.int .i64) .imm (.int .i64) .imm (zBR N) (fun r => [⟨(.int .i64), .imm, r⟩]) (fun r => []) }
def zBR.cfg (N : Nat) : Cfg := { ty := tys, keep := [], flt := [], elm := elm0, live := [], ord := [], con := [], loops := [], joins := [] }
theorem zBR.cons (N : Nat) : ConsOk Tryz.prog (zBR.cfg N).con := consOk_nil
theorem zBR.ls (N : Nat) : LoopsOk Tryz.prog (zBR.cfg N) (fnBody Tryz.f69) := loopsL (l := []) (by kernel_rfl) trivial
theorem zBR.b (N : Nat) (x0 : den (.int .i64)) (x1 : den (.int .i64)) : body (zBR.cfg N) N Tryz.f69 [.one, .one] [.v, .v] [(false, .imm)] [⟨(.int .i64), .imm, x0⟩, ⟨(.int .i64), .imm, x1⟩] (fun r i => some (r, i)) = bindO (zBR N x0 x1) fun r => some ([⟨(.int .i64), .imm, r⟩], []) := by
  show _ = bindF _ _
  conv => rhs; simp only [zBR, bindF_ifB, bindF_bindO, bindF_pure, bindF_none, bindF_onSum]
  kernel_rfl
theorem zBR.ok (N : Nat) : ConOk Tryz.prog 69 [.one, .one] (zBR.con N) := ok2 (g := zBR.cfg N) (N := N) (res := [(false, .imm)]) tys_ok (zBR.cons N) mixed Tryz.func69 (zBR.ls N) rfl (zBR.b N)
theorem zBR.det (N : Nat) : ConDet (zBR.con N) := det2
def zAZ.sk5 : Skel := ⟨dd 2 (.ptr 50 [] :: (.ptr 51 [] :: (dd 1 (.pv (.int .i64) :: (.pv (.int .i64) :: (dd 37 [])))))), [⟨50, s24, .imm, true, false⟩, ⟨51, s102, .imm, true, false⟩]⟩
def zAZ.xs5 : List XS := [⟨.exit 0, [2, 3, 6], ⟨dd 2 (.ptr 50 [] :: (.ptr 51 [] :: (dd 2 (.pv (.int .i64) :: (dd 37 []))))), [⟨50, s24, .imm, true, false⟩, ⟨51, s102, .imm, true, false⟩]⟩⟩]
def zAZ.con (N : Nat) : Con := { modes := [.v, .v], ptrs := [false], fn := fn2 s24 .imm s102 .imm (zAZ N) (fun r => [⟨(.int .i64), .imm, r⟩]) (fun r => []) }
def zAZ.cfg (N : Nat) : Cfg := { ty := tys, keep := [9, 14, 16, 17, 24, 28], flt := [], elm := elm0, live := [(5, [2, 3, 5, 6])], ord := [(3, [0, 1, 2, 3, 4, 5, 6, 7])], con := [((17, [.one]), zB9.con N), ((109, [.one]), zC8.con N), ((69, [.one, .one]), zBR.con N), ((66, [.one, .one]), zBY.con N), ((72, [.one, .one]), zAU.con N)], loops := [(5, loopCon N zAZ.sk5 zAZ.xs5 (fun {R} => zAZ.l5 (R := R) N))], joins := [] }
theorem zAZ.cons (N : Nat) : ConsOk Tryz.prog (zAZ.cfg N).con := (consOk_cons (hb17) (zB9.ok N) (zB9.det N) (consOk_cons (hb109) (zC8.ok N) (zC8.det N) (consOk_cons (hb69) (zBR.ok N) (zBR.det N) (consOk_cons (hb66) (zBY.ok N) (zBY.det N) (consOk_cons (hb72) (zAU.ok N) (zAU.det N) consOk_nil)))))
theorem zAZ.h5 {R : Type} (N : Nat) (d : zAZ.sk5.D) (kn : zAZ.sk5.D → Option R) (kx : XD zAZ.xs5 → Option R) : roundK (zAZ.cfg N) N (nthLoop (fnBody Tryz.f97) 0) zAZ.sk5 zAZ.xs5 d kn kx = zAZ.l5 N d kn kx := by kernel_rfl
theorem zAZ.i5 (N : Nat) : LoopsOk Tryz.prog (zAZ.cfg N) (nthLoop (fnBody Tryz.f97) 0) := loopsL (l := []) (by kernel_rfl) trivial
theorem zAZ.o5 (N : Nat) : LoopOk Tryz.prog (nthLoop (fnBody Tryz.f97) 0) (loopCon N zAZ.sk5 zAZ.xs5 (fun {R} => zAZ.l5 (R := R) N)) := loop_ok (g := zAZ.cfg N) tys_ok (zAZ.cons N) mixed (zAZ.i5 N) (fun d kn kx => zAZ.h5 N d kn kx)
theorem zAZ.ls (N : Nat) : LoopsOk Tryz.prog (zAZ.cfg N) (fnBody Tryz.f97) := loopsL (l := [nthLoop (fnBody Tryz.f97) 0]) (by kernel_rfl) ⟨loopOne (L0 := loopCon N zAZ.sk5 zAZ.xs5 (fun {R} => zAZ.l5 (R := R) N)) (id := 5) (by kernel_rfl) (by kernel_rfl) (zAZ.o5 N), trivial⟩
theorem zAZ.q5 {R R' : Type} {N n : Nat} {d} {k} {g : R → Option R'} : bindF (loopP (zAZ.l5 N) n d k) g = loopP (zAZ.l5 N) n d fun e => bindF (k e) g := bindF_loopP (fun d kn kx => by simp only [zAZ.l5, bindF_ifB, bindF_bindO, bindF_pure, bindF_none, bindF_onSum]) n d k
theorem zAZ.b (N : Nat) (x0 : den s24) (x1 : den s102) : body (zAZ.cfg N) N Tryz.f97 [.one, .one] [.v, .v] [(false, .imm)] [⟨s24, .imm, x0⟩, ⟨s102, .imm, x1⟩] (fun r i => some (r, i)) = bindO (zAZ N x0 x1) fun r => some ([⟨(.int .i64), .imm, r⟩], []) := by
  show _ = bindF _ _
  conv => rhs; simp only [zAZ, bindF_ifB, bindF_bindO, bindF_pure, bindF_none, bindF_onSum, zAZ.q5]
  kernel_rfl
theorem zAZ.ok (N : Nat) : ConOk Tryz.prog 97 [.one, .one] (zAZ.con N) := ok2 (g := zAZ.cfg N) (N := N) (res := [(false, .imm)]) tys_ok (zAZ.cons N) mixed Tryz.func97 (zAZ.ls N) rfl (zAZ.b N)
theorem zAZ.det (N : Nat) : ConDet (zAZ.con N) := det2
def zCD.con (N : Nat) : Con := { modes := [.v], ptrs := [false], fn := fn1 (.int .i64) .imm (zCD N) (fun r => [⟨(.int .i64), .imm, r⟩]) (fun r => []) }
def zCD.cfg (N : Nat) : Cfg := { ty := tys, keep := [4], flt := [], elm := elm0, live := [], ord := [], con := [((63, [.one]), zC2.con N)], loops := [], joins := [] }
theorem zCD.cons (N : Nat) : ConsOk Tryz.prog (zCD.cfg N).con := (consOk_cons (hb63) (zC2.ok N) (zC2.det N) consOk_nil)
theorem zCD.ls (N : Nat) : LoopsOk Tryz.prog (zCD.cfg N) (fnBody Tryz.f110) := loopsL (l := []) (by kernel_rfl) trivial
theorem zCD.b (N : Nat) (x0 : den (.int .i64)) : body (zCD.cfg N) N Tryz.f110 [.one] [.v] [(false, .imm)] [⟨(.int .i64), .imm, x0⟩] (fun r i => some (r, i)) = bindO (zCD N x0) fun r => some ([⟨(.int .i64), .imm, r⟩], []) := by
  show _ = bindF _ _
  conv => rhs; simp only [zCD, bindF_ifB, bindF_bindO, bindF_pure, bindF_none, bindF_onSum]
  kernel_rfl
theorem zCD.ok (N : Nat) : ConOk Tryz.prog 110 [.one] (zCD.con N) := ok1 (g := zCD.cfg N) (N := N) (res := [(false, .imm)]) tys_ok (zCD.cons N) mixed Tryz.func110 (zCD.ls N) rfl (zCD.b N)
theorem zCD.det (N : Nat) : ConDet (zCD.con N) := det1
def zA4.sk8 : Skel := ⟨dd 1 (.pv (.int .i64) :: (dd 2 (.ptr 50 [] :: (dd 114 [])))), [⟨50, s24, .imm, true, false⟩]⟩
def zA4.xs8 : List XS := [⟨.exit 1, [1, 4, 45, 46, 47, 48, 49, 50, 51, 52], ⟨dd 1 (.pv (.int .i64) :: (dd 2 (.ptr 50 [] :: (dd 114 [])))), [⟨50, s24, .imm, true, false⟩]⟩⟩]
def zA4.sk10 : Skel := ⟨dd 1 (.pv (.int .i64) :: (dd 2 (.ptr 50 [] :: (dd 114 [])))), [⟨50, s24, .imm, true, false⟩]⟩
def zA4.xs10 : List XS := [⟨.exit 3, [1], ⟨dd 1 (.pv (.int .i64) :: (dd 117 [])), []⟩⟩]
def zA4.sk14 : Skel := ⟨dd 1 (.pv (.int .i64) :: (dd 2 (.ptr 50 [] :: (dd 4 (.pv (.int .i64) :: (dd 109 [])))))), [⟨50, s24, .imm, true, false⟩]⟩
def zA4.xs14 : List XS := [⟨.exit 5, [1, 4, 9, 77, 78, 79, 80, 81, 82, 83], ⟨dd 1 (.pv (.int .i64) :: (dd 2 (.ptr 50 [] :: (dd 4 (.pv (.int .i64) :: (dd 109 [])))))), [⟨50, s24, .imm, true, false⟩]⟩⟩]
def zA4.sk16 : Skel := ⟨dd 1 (.pv (.int .i64) :: (dd 2 (.ptr 50 [] :: (dd 4 (.pv (.int .i64) :: (dd 109 [])))))), [⟨50, s24, .imm, true, false⟩]⟩
def zA4.xs16 : List XS := [⟨.exit 7, [1], ⟨dd 1 (.pv (.int .i64) :: (dd 117 [])), []⟩⟩]
def zA4.sk28 : Skel := ⟨dd 1 (.pv (.int .i64) :: (dd 1 (.pv (.int .i64) :: (.ptr 50 [] :: (dd 4 (.pv (.int .i64) :: (.pv (.int .i64) :: (dd 108 [])))))))), [⟨50, s24, .imm, true, false⟩]⟩
def zA4.xs28 : List XS := [⟨.exit 9, [1], ⟨dd 1 (.pv (.int .i64) :: (dd 117 [])), []⟩⟩, ⟨.ret, [8], ⟨dd 8 (.pv (.int .i64) :: (dd 110 [])), []⟩⟩]
def zA4.con (N : Nat) : Con := { modes := [.v, .v, .v, .v], ptrs := [false], fn := fn4 s24 .imm (.int .i64) .imm (.int .i64) .imm (.int .i64) .imm (zA4 N) (fun r => [⟨(.int .i64), .imm, r⟩]) (fun r => []) }
def zA4.cfg (N : Nat) : Cfg := { ty := tys, keep := [19, 25, 37, 51, 68, 82, 92, 97], flt := [], elm := elm0, live := [(28, [1, 3, 4, 9, 10]), (10, [1, 4, 45, 46, 47, 48, 49, 50, 51, 52]), (8, [1, 4, 31, 32, 33, 34, 35, 36, 37, 38, 45, 46, 47, 48, 49, 50, 51, 52]), (16, [1, 4, 9, 77, 78, 79, 80, 81, 82, 83]), (14, [1, 4, 9, 63, 64, 65, 66, 67, 68, 69, 77, 78, 79, 80, 81, 82, 83])], ord := [], con := [((66, [.one, .one]), zBY.con N), ((69, [.one, .one]), zBR.con N), ((110, [.one]), zCD.con N), ((73, [.one, .one]), zAK.con N), ((72, [.one, .one]), zAU.con N)], loops := [(8, loopCon N zA4.sk8 zA4.xs8 (fun {R} => zA4.l8 (R := R) N)), (10, loopCon N zA4.sk10 zA4.xs10 (fun {R} => zA4.l10 (R := R) N)), (14, loopCon N zA4.sk14 zA4.xs14 (fun {R} => zA4.l14 (R := R) N)), (16, loopCon N zA4.sk16 zA4.xs16 (fun {R} => zA4.l16 (R := R) N)), (28, loopCon N zA4.sk28 zA4.xs28 (fun {R} => zA4.l28 (R := R) N))], joins := [] }
theorem zA4.cons (N : Nat) : ConsOk Tryz.prog (zA4.cfg N).con := (consOk_cons (hb66) (zBY.ok N) (zBY.det N) (consOk_cons (hb69) (zBR.ok N) (zBR.det N) (consOk_cons (hb110) (zCD.ok N) (zCD.det N) (consOk_cons (hb73) (zAK.ok N) (zAK.det N) (consOk_cons (hb72) (zAU.ok N) (zAU.det N) consOk_nil)))))
theorem zA4.h28 {R : Type} (N : Nat) (d : zA4.sk28.D) (kn : zA4.sk28.D → Option R) (kx : XD zA4.xs28 → Option R) : roundK (zA4.cfg N) N (nthLoop (fnBody Tryz.f98) 4) zA4.sk28 zA4.xs28 d kn kx = zA4.l28 N d kn kx := by kernel_rfl
theorem zA4.i28 (N : Nat) : LoopsOk Tryz.prog (zA4.cfg N) (nthLoop (fnBody Tryz.f98) 4) := loopsL (l := []) (by kernel_rfl) trivial
theorem zA4.o28 (N : Nat) : LoopOk Tryz.prog (nthLoop (fnBody Tryz.f98) 4) (loopCon N zA4.sk28 zA4.xs28 (fun {R} => zA4.l28 (R := R) N)) := loop_ok (g := zA4.cfg N) tys_ok (zA4.cons N) mixed (zA4.i28 N) (fun d kn kx => zA4.h28 N d kn kx)
theorem zA4.h16 {R : Type} (N : Nat) (d : zA4.sk16.D) (kn : zA4.sk16.D → Option R) (kx : XD zA4.xs16 → Option R) : roundK (zA4.cfg N) N (nthLoop (fnBody Tryz.f98) 3) zA4.sk16 zA4.xs16 d kn kx = zA4.l16 N d kn kx := by kernel_rfl
theorem zA4.i16 (N : Nat) : LoopsOk Tryz.prog (zA4.cfg N) (nthLoop (fnBody Tryz.f98) 3) := loopsL (l := []) (by kernel_rfl) trivial
theorem zA4.o16 (N : Nat) : LoopOk Tryz.prog (nthLoop (fnBody Tryz.f98) 3) (loopCon N zA4.sk16 zA4.xs16 (fun {R} => zA4.l16 (R := R) N)) := loop_ok (g := zA4.cfg N) tys_ok (zA4.cons N) mixed (zA4.i16 N) (fun d kn kx => zA4.h16 N d kn kx)
theorem zA4.h14 {R : Type} (N : Nat) (d : zA4.sk14.D) (kn : zA4.sk14.D → Option R) (kx : XD zA4.xs14 → Option R) : roundK (zA4.cfg N) N (nthLoop (fnBody Tryz.f98) 2) zA4.sk14 zA4.xs14 d kn kx = zA4.l14 N d kn kx := by kernel_rfl
theorem zA4.i14 (N : Nat) : LoopsOk Tryz.prog (zA4.cfg N) (nthLoop (fnBody Tryz.f98) 2) := loopsL (l := []) (by kernel_rfl) trivial
theorem zA4.o14 (N : Nat) : LoopOk Tryz.prog (nthLoop (fnBody Tryz.f98) 2) (loopCon N zA4.sk14 zA4.xs14 (fun {R} => zA4.l14 (R := R) N)) := loop_ok (g := zA4.cfg N) tys_ok (zA4.cons N) mixed (zA4.i14 N) (fun d kn kx => zA4.h14 N d kn kx)
theorem zA4.h10 {R : Type} (N : Nat) (d : zA4.sk10.D) (kn : zA4.sk10.D → Option R) (kx : XD zA4.xs10 → Option R) : roundK (zA4.cfg N) N (nthLoop (fnBody Tryz.f98) 1) zA4.sk10 zA4.xs10 d kn kx = zA4.l10 N d kn kx := by kernel_rfl
theorem zA4.i10 (N : Nat) : LoopsOk Tryz.prog (zA4.cfg N) (nthLoop (fnBody Tryz.f98) 1) := loopsL (l := []) (by kernel_rfl) trivial
theorem zA4.o10 (N : Nat) : LoopOk Tryz.prog (nthLoop (fnBody Tryz.f98) 1) (loopCon N zA4.sk10 zA4.xs10 (fun {R} => zA4.l10 (R := R) N)) := loop_ok (g := zA4.cfg N) tys_ok (zA4.cons N) mixed (zA4.i10 N) (fun d kn kx => zA4.h10 N d kn kx)
theorem zA4.h8 {R : Type} (N : Nat) (d : zA4.sk8.D) (kn : zA4.sk8.D → Option R) (kx : XD zA4.xs8 → Option R) : roundK (zA4.cfg N) N (nthLoop (fnBody Tryz.f98) 0) zA4.sk8 zA4.xs8 d kn kx = zA4.l8 N d kn kx := by kernel_rfl
theorem zA4.i8 (N : Nat) : LoopsOk Tryz.prog (zA4.cfg N) (nthLoop (fnBody Tryz.f98) 0) := loopsL (l := []) (by kernel_rfl) trivial
theorem zA4.o8 (N : Nat) : LoopOk Tryz.prog (nthLoop (fnBody Tryz.f98) 0) (loopCon N zA4.sk8 zA4.xs8 (fun {R} => zA4.l8 (R := R) N)) := loop_ok (g := zA4.cfg N) tys_ok (zA4.cons N) mixed (zA4.i8 N) (fun d kn kx => zA4.h8 N d kn kx)
theorem zA4.ls (N : Nat) : LoopsOk Tryz.prog (zA4.cfg N) (fnBody Tryz.f98) := loopsL (l := [nthLoop (fnBody Tryz.f98) 0, nthLoop (fnBody Tryz.f98) 1, nthLoop (fnBody Tryz.f98) 2, nthLoop (fnBody Tryz.f98) 3, nthLoop (fnBody Tryz.f98) 4]) (by kernel_rfl) ⟨loopOne (L0 := loopCon N zA4.sk8 zA4.xs8 (fun {R} => zA4.l8 (R := R) N)) (id := 8) (by kernel_rfl) (by kernel_rfl) (zA4.o8 N), ⟨loopOne (L0 := loopCon N zA4.sk10 zA4.xs10 (fun {R} => zA4.l10 (R := R) N)) (id := 10) (by kernel_rfl) (by kernel_rfl) (zA4.o10 N), ⟨loopOne (L0 := loopCon N zA4.sk14 zA4.xs14 (fun {R} => zA4.l14 (R := R) N)) (id := 14) (by kernel_rfl) (by kernel_rfl) (zA4.o14 N), ⟨loopOne (L0 := loopCon N zA4.sk16 zA4.xs16 (fun {R} => zA4.l16 (R := R) N)) (id := 16) (by kernel_rfl) (by kernel_rfl) (zA4.o16 N), ⟨loopOne (L0 := loopCon N zA4.sk28 zA4.xs28 (fun {R} => zA4.l28 (R := R) N)) (id := 28) (by kernel_rfl) (by kernel_rfl) (zA4.o28 N), trivial⟩⟩⟩⟩⟩
theorem zA4.q28 {R R' : Type} {N n : Nat} {d} {k} {g : R → Option R'} : bindF (loopP (zA4.l28 N) n d k) g = loopP (zA4.l28 N) n d fun e => bindF (k e) g := bindF_loopP (fun d kn kx => by simp only [zA4.l28, bindF_ifB, bindF_bindO, bindF_pure, bindF_none, bindF_onSum]) n d k
theorem zA4.q16 {R R' : Type} {N n : Nat} {d} {k} {g : R → Option R'} : bindF (loopP (zA4.l16 N) n d k) g = loopP (zA4.l16 N) n d fun e => bindF (k e) g := bindF_loopP (fun d kn kx => by simp only [zA4.l16, bindF_ifB, bindF_bindO, bindF_pure, bindF_none, bindF_onSum]) n d k
theorem zA4.q14 {R R' : Type} {N n : Nat} {d} {k} {g : R → Option R'} : bindF (loopP (zA4.l14 N) n d k) g = loopP (zA4.l14 N) n d fun e => bindF (k e) g := bindF_loopP (fun d kn kx => by simp only [zA4.l14, bindF_ifB, bindF_bindO, bindF_pure, bindF_none, bindF_onSum]) n d k
theorem zA4.q10 {R R' : Type} {N n : Nat} {d} {k} {g : R → Option R'} : bindF (loopP (zA4.l10 N) n d k) g = loopP (zA4.l10 N) n d fun e => bindF (k e) g := bindF_loopP (fun d kn kx => by simp only [zA4.l10, bindF_ifB, bindF_bindO, bindF_pure, bindF_none, bindF_onSum]) n d k
theorem zA4.q8 {R R' : Type} {N n : Nat} {d} {k} {g : R → Option R'} : bindF (loopP (zA4.l8 N) n d k) g = loopP (zA4.l8 N) n d fun e => bindF (k e) g := bindF_loopP (fun d kn kx => by simp only [zA4.l8, bindF_ifB, bindF_bindO, bindF_pure, bindF_none, bindF_onSum]) n d k
theorem zA4.b (N : Nat) (x0 : den s24) (x1 : den (.int .i64)) (x2 : den (.int .i64)) (x3 : den (.int .i64)) : body (zA4.cfg N) N Tryz.f98 [.one, .one, .one, .one] [.v, .v, .v, .v] [(false, .imm)] [⟨s24, .imm, x0⟩, ⟨(.int .i64), .imm, x1⟩, ⟨(.int .i64), .imm, x2⟩, ⟨(.int .i64), .imm, x3⟩] (fun r i => some (r, i)) = bindO (zA4 N x0 x1 x2 x3) fun r => some ([⟨(.int .i64), .imm, r⟩], []) := by
  show _ = bindF _ _
  conv => rhs; simp only [zA4, bindF_ifB, bindF_bindO, bindF_pure, bindF_none, bindF_onSum, zA4.q8, zA4.q10, zA4.q14, zA4.q16, zA4.q28]
  kernel_rfl
theorem zA4.ok (N : Nat) : ConOk Tryz.prog 98 [.one, .one, .one, .one] (zA4.con N) := ok4 (g := zA4.cfg N) (N := N) (res := [(false, .imm)]) tys_ok (zA4.cons N) mixed Tryz.func98 (zA4.ls N) rfl (zA4.b N)
theorem zA4.det (N : Nat) : ConDet (zA4.con N) := det4
def zB4.sk10 : Skel := ⟨dd 1 (.pv (.int .i64) :: (.pv (.int .i64) :: (.pv (.int .i64) :: (.ptr 50 [] :: (dd 5 (.pv (.int .i64) :: (dd 56 []))))))), [⟨50, s24, .imm, true, false⟩]⟩
def zB4.xs10 : List XS := [⟨.exit 0, [10], ⟨dd 10 (.pv (.int .i64) :: (dd 56 [])), []⟩⟩]
def zB4.con (N : Nat) : Con := { modes := [.v, .v, .v, .v], ptrs := [false], fn := fn4 s24 .imm (.int .i64) .imm (.int .i64) .imm (.int .i64) .imm (zB4 N) (fun r => [⟨(.int .i64), .imm, r⟩]) (fun r => []) }
def zB4.cfg (N : Nat) : Cfg := { ty := tys, keep := [12, 39, 54, 65], flt := [], elm := elm0, live := [(10, [1, 2, 3, 4, 10])], ord := [], con := [((17, [.one]), zB9.con N), ((96, [.one, .one]), zAX.con N), ((97, [.one, .one]), zAZ.con N), ((98, [.one, .one, .one, .one]), zA4.con N)], loops := [(10, loopCon N zB4.sk10 zB4.xs10 (fun {R} => zB4.l10 (R := R) N))], joins := [] }
theorem zB4.cons (N : Nat) : ConsOk Tryz.prog (zB4.cfg N).con := (consOk_cons (hb17) (zB9.ok N) (zB9.det N) (consOk_cons (hb96) (zAX.ok N) (zAX.det N) (consOk_cons (hb97) (zAZ.ok N) (zAZ.det N) (consOk_cons (hb98) (zA4.ok N) (zA4.det N) consOk_nil))))
theorem zB4.h10 {R : Type} (N : Nat) (d : zB4.sk10.D) (kn : zB4.sk10.D → Option R) (kx : XD zB4.xs10 → Option R) : roundK (zB4.cfg N) N (nthLoop (fnBody Tryz.f84) 0) zB4.sk10 zB4.xs10 d kn kx = zB4.l10 N d kn kx := by kernel_rfl
theorem zB4.i10 (N : Nat) : LoopsOk Tryz.prog (zB4.cfg N) (nthLoop (fnBody Tryz.f84) 0) := loopsL (l := []) (by kernel_rfl) trivial
theorem zB4.o10 (N : Nat) : LoopOk Tryz.prog (nthLoop (fnBody Tryz.f84) 0) (loopCon N zB4.sk10 zB4.xs10 (fun {R} => zB4.l10 (R := R) N)) := loop_ok (g := zB4.cfg N) tys_ok (zB4.cons N) mixed (zB4.i10 N) (fun d kn kx => zB4.h10 N d kn kx)
theorem zB4.ls (N : Nat) : LoopsOk Tryz.prog (zB4.cfg N) (fnBody Tryz.f84) := loopsL (l := [nthLoop (fnBody Tryz.f84) 0]) (by kernel_rfl) ⟨loopOne (L0 := loopCon N zB4.sk10 zB4.xs10 (fun {R} => zB4.l10 (R := R) N)) (id := 10) (by kernel_rfl) (by kernel_rfl) (zB4.o10 N), trivial⟩
theorem zB4.q10 {R R' : Type} {N n : Nat} {d} {k} {g : R → Option R'} : bindF (loopP (zB4.l10 N) n d k) g = loopP (zB4.l10 N) n d fun e => bindF (k e) g := bindF_loopP (fun d kn kx => by simp only [zB4.l10, bindF_ifB, bindF_bindO, bindF_pure, bindF_none, bindF_onSum]) n d k
theorem zB4.b (N : Nat) (x0 : den s24) (x1 : den (.int .i64)) (x2 : den (.int .i64)) (x3 : den (.int .i64)) : body (zB4.cfg N) N Tryz.f84 [.one, .one, .one, .one] [.v, .v, .v, .v] [(false, .imm)] [⟨s24, .imm, x0⟩, ⟨(.int .i64), .imm, x1⟩, ⟨(.int .i64), .imm, x2⟩, ⟨(.int .i64), .imm, x3⟩] (fun r i => some (r, i)) = bindO (zB4 N x0 x1 x2 x3) fun r => some ([⟨(.int .i64), .imm, r⟩], []) := by
  show _ = bindF _ _
  conv => rhs; simp only [zB4, bindF_ifB, bindF_bindO, bindF_pure, bindF_none, bindF_onSum, zB4.q10]
  kernel_rfl
theorem zB4.ok (N : Nat) : ConOk Tryz.prog 84 [.one, .one, .one, .one] (zB4.con N) := ok4 (g := zB4.cfg N) (N := N) (res := [(false, .imm)]) tys_ok (zB4.cons N) mixed Tryz.func84 (zB4.ls N) rfl (zB4.b N)
theorem zB4.det (N : Nat) : ConDet (zB4.con N) := det4
def zCF.con (N : Nat) : Con := { modes := [.v, .v], ptrs := [false], fn := fn2 s27 .imm s23 .imm (zCF N) (fun r => [⟨s27, (.pr (.own (.own .imm)) .imm), r⟩]) (fun r => []) }
def zCF.cfg (N : Nat) : Cfg := { ty := tys, keep := [11, 15, 24, 26, 30], flt := [], elm := elm0, live := [], ord := [(5, [8, 0, 3, 4, 1, 2, 5, 6, 7, 9])], con := [((18, [.one]), zBF.con N), ((37, [.one]), zAH.con N), ((40, [.one]), zBL.con N), ((64, [.one]), zBI.con N), ((65, [.one]), zAL.con N)], loops := [], joins := [] }
theorem zCF.cons (N : Nat) : ConsOk Tryz.prog (zCF.cfg N).con := (consOk_cons (hb18) (zBF.ok N) (zBF.det N) (consOk_cons (hb37) (zAH.ok N) (zAH.det N) (consOk_cons (hb40) (zBL.ok N) (zBL.det N) (consOk_cons (hb64) (zBI.ok N) (zBI.det N) (consOk_cons (hb65) (zAL.ok N) (zAL.det N) consOk_nil)))))
theorem zCF.ls (N : Nat) : LoopsOk Tryz.prog (zCF.cfg N) (fnBody Tryz.f99) := loopsL (l := []) (by kernel_rfl) trivial
theorem zCF.b (N : Nat) (x0 : den s27) (x1 : den s23) : body (zCF.cfg N) N Tryz.f99 [.one, .one] [.v, .v] [(false, (.pr (.own (.own .imm)) .imm))] [⟨s27, .imm, x0⟩, ⟨s23, .imm, x1⟩] (fun r i => some (r, i)) = bindO (zCF N x0 x1) fun r => some ([⟨s27, (.pr (.own (.own .imm)) .imm), r⟩], []) := by
  show _ = bindF _ _
  conv => rhs; simp only [zCF, bindF_ifB, bindF_bindO, bindF_pure, bindF_none, bindF_onSum]
  kernel_rfl
theorem zCF.ok (N : Nat) : ConOk Tryz.prog 99 [.one, .one] (zCF.con N) := ok2 (g := zCF.cfg N) (N := N) (res := [(false, (.pr (.own (.own .imm)) .imm))]) tys_ok (zCF.cons N) mixed Tryz.func99 (zCF.ls N) rfl (zCF.b N)
theorem zCF.det (N : Nat) : ConDet (zCF.con N) := det2
def zCB.con (N : Nat) : Con := { modes := [.v, .v, .v, .v], ptrs := [false], fn := fn4 (.int .i64) .imm (.int .i64) .imm (.int .i64) .imm (.int .i64) .imm (zCB N) (fun r => [⟨(.int .i64), .imm, r⟩]) (fun r => []) }
def zCB.cfg (N : Nat) : Cfg := { ty := tys, keep := [], flt := [], elm := elm0, live := [], ord := [], con := [], loops := [], joins := [] }
theorem zCB.cons (N : Nat) : ConsOk Tryz.prog (zCB.cfg N).con := consOk_nil
theorem zCB.ls (N : Nat) : LoopsOk Tryz.prog (zCB.cfg N) (fnBody Tryz.f87) := loopsL (l := []) (by kernel_rfl) trivial
theorem zCB.b (N : Nat) (x0 : den (.int .i64)) (x1 : den (.int .i64)) (x2 : den (.int .i64)) (x3 : den (.int .i64)) : body (zCB.cfg N) N Tryz.f87 [.one, .one, .one, .one] [.v, .v, .v, .v] [(false, .imm)] [⟨(.int .i64), .imm, x0⟩, ⟨(.int .i64), .imm, x1⟩, ⟨(.int .i64), .imm, x2⟩, ⟨(.int .i64), .imm, x3⟩] (fun r i => some (r, i)) = bindO (zCB N x0 x1 x2 x3) fun r => some ([⟨(.int .i64), .imm, r⟩], []) := by
  show _ = bindF _ _
  conv => rhs; simp only [zCB, bindF_ifB, bindF_bindO, bindF_pure, bindF_none, bindF_onSum]
  kernel_rfl
theorem zCB.ok (N : Nat) : ConOk Tryz.prog 87 [.one, .one, .one, .one] (zCB.con N) := ok4 (g := zCB.cfg N) (N := N) (res := [(false, .imm)]) tys_ok (zCB.cons N) mixed Tryz.func87 (zCB.ls N) rfl (zCB.b N)
theorem zCB.det (N : Nat) : ConDet (zCB.con N) := det4
def zBE.con (N : Nat) : Con := { modes := [.v, .v, .v, .v], ptrs := [false], fn := fn4 s24 .imm (.int .i64) .imm (.int .i64) .imm s23 .imm (zBE N) (fun r => [⟨s88, (.pr (.pr (.own .imm) .imm) (.pr (.own .imm) .imm)), r⟩]) (fun r => []) }
def zBE.cfg (N : Nat) : Cfg := { ty := tys, keep := [18, 22, 63, 69, 75, 103], flt := [], elm := elm0, live := [], ord := [(12, [13, 0, 1, 2, 3, 4, 6, 7, 8, 9, 10, 5, 11, 12, 14]), (13, [0, 1, 2, 3, 5, 7, 8, 9, 10, 4, 6, 11, 12, 13]), (16, [0, 1, 2, 3, 4, 5, 6, 7, 8])], con := [((17, [.one]), zB9.con N), ((37, [.one]), zAH.con N), ((87, [.one, .one, .one, .one]), zCB.con N), ((64, [.one]), zBI.con N)], loops := [], joins := [] }
theorem zBE.cons (N : Nat) : ConsOk Tryz.prog (zBE.cfg N).con := (consOk_cons (hb17) (zB9.ok N) (zB9.det N) (consOk_cons (hb37) (zAH.ok N) (zAH.det N) (consOk_cons (hb87) (zCB.ok N) (zCB.det N) (consOk_cons (hb64) (zBI.ok N) (zBI.det N) consOk_nil))))
theorem zBE.ls (N : Nat) : LoopsOk Tryz.prog (zBE.cfg N) (fnBody Tryz.f70) := loopsL (l := []) (by kernel_rfl) trivial
theorem zBE.b (N : Nat) (x0 : den s24) (x1 : den (.int .i64)) (x2 : den (.int .i64)) (x3 : den s23) : body (zBE.cfg N) N Tryz.f70 [.one, .one, .one, .one] [.v, .v, .v, .v] [(false, (.pr (.pr (.own .imm) .imm) (.pr (.own .imm) .imm)))] [⟨s24, .imm, x0⟩, ⟨(.int .i64), .imm, x1⟩, ⟨(.int .i64), .imm, x2⟩, ⟨s23, .imm, x3⟩] (fun r i => some (r, i)) = bindO (zBE N x0 x1 x2 x3) fun r => some ([⟨s88, (.pr (.pr (.own .imm) .imm) (.pr (.own .imm) .imm)), r⟩], []) := by
  show _ = bindF _ _
  conv => rhs; simp only [zBE, bindF_ifB, bindF_bindO, bindF_pure, bindF_none, bindF_onSum]
  kernel_rfl
theorem zBE.ok (N : Nat) : ConOk Tryz.prog 70 [.one, .one, .one, .one] (zBE.con N) := ok4 (g := zBE.cfg N) (N := N) (res := [(false, (.pr (.pr (.own .imm) .imm) (.pr (.own .imm) .imm)))]) tys_ok (zBE.cons N) mixed Tryz.func70 (zBE.ls N) rfl (zBE.b N)
theorem zBE.det (N : Nat) : ConDet (zBE.con N) := det4
def zC6.con (N : Nat) : Con := { modes := [.v, .v, .v], ptrs := [false], fn := fn3 s24 .imm (.int .i64) .imm (.int .i64) .imm (zC6 N) (fun r => [⟨s88, (.pr (.pr (.own .imm) .imm) (.pr (.own .imm) .imm)), r⟩]) (fun r => []) }
def zC6.cfg (N : Nat) : Cfg := { ty := tys, keep := [11], flt := [], elm := elm0, live := [], ord := [], con := [((70, [.one, .one, .one, .one]), zBE.con N)], loops := [], joins := [] }
theorem zC6.cons (N : Nat) : ConsOk Tryz.prog (zC6.cfg N).con := (consOk_cons (hb70) (zBE.ok N) (zBE.det N) consOk_nil)
theorem zC6.ls (N : Nat) : LoopsOk Tryz.prog (zC6.cfg N) (fnBody Tryz.f100) := loopsL (l := []) (by kernel_rfl) trivial
theorem zC6.b (N : Nat) (x0 : den s24) (x1 : den (.int .i64)) (x2 : den (.int .i64)) : body (zC6.cfg N) N Tryz.f100 [.one, .one, .one] [.v, .v, .v] [(false, (.pr (.pr (.own .imm) .imm) (.pr (.own .imm) .imm)))] [⟨s24, .imm, x0⟩, ⟨(.int .i64), .imm, x1⟩, ⟨(.int .i64), .imm, x2⟩] (fun r i => some (r, i)) = bindO (zC6 N x0 x1 x2) fun r => some ([⟨s88, (.pr (.pr (.own .imm) .imm) (.pr (.own .imm) .imm)), r⟩], []) := by
  show _ = bindF _ _
  conv => rhs; simp only [zC6, bindF_ifB, bindF_bindO, bindF_pure, bindF_none, bindF_onSum]
  kernel_rfl
theorem zC6.ok (N : Nat) : ConOk Tryz.prog 100 [.one, .one, .one] (zC6.con N) := ok3 (g := zC6.cfg N) (N := N) (res := [(false, (.pr (.pr (.own .imm) .imm) (.pr (.own .imm) .imm)))]) tys_ok (zC6.cons N) mixed Tryz.func100 (zC6.ls N) rfl (zC6.b N)
theorem zC6.det (N : Nat) : ConDet (zC6.con N) := det3
def zCN.con (N : Nat) : Con := { modes := [.v, .v, .v, .v, .v], ptrs := [false, false], fn := fn5 s24 .imm s27 .imm (.int .i64) .imm (.int .i64) .imm .bool .imm (zCN N) (fun r => [⟨s24, (.pr (.own .imm) .imm), r.1⟩, ⟨s27, (.pr (.own (.own .imm)) .imm), r.2⟩]) (fun r => []) }
def zCN.cfg (N : Nat) : Cfg := { ty := tys, keep := [22, 24, 29], flt := [], elm := elm0, live := [], ord := [(7, [0, 1, 2, 3])], con := [((99, [.one, .one]), zCF.con N), ((39, [.one]), zBV.con N), ((100, [.one, .one, .one]), zC6.con N)], loops := [], joins := [] }
theorem zCN.cons (N : Nat) : ConsOk Tryz.prog (zCN.cfg N).con := (consOk_cons (hb99) (zCF.ok N) (zCF.det N) (consOk_cons (hb39) (zBV.ok N) (zBV.det N) (consOk_cons (hb100) (zC6.ok N) (zC6.det N) consOk_nil)))
theorem zCN.ls (N : Nat) : LoopsOk Tryz.prog (zCN.cfg N) (fnBody Tryz.f85) := loopsL (l := []) (by kernel_rfl) trivial
theorem zCN.b (N : Nat) (x0 : den s24) (x1 : den s27) (x2 : den (.int .i64)) (x3 : den (.int .i64)) (x4 : den .bool) : body (zCN.cfg N) N Tryz.f85 [.one, .one, .one, .one, .one] [.v, .v, .v, .v, .v] [(false, (.pr (.own .imm) .imm)), (false, (.pr (.own (.own .imm)) .imm))] [⟨s24, .imm, x0⟩, ⟨s27, .imm, x1⟩, ⟨(.int .i64), .imm, x2⟩, ⟨(.int .i64), .imm, x3⟩, ⟨.bool, .imm, x4⟩] (fun r i => some (r, i)) = bindO (zCN N x0 x1 x2 x3 x4) fun r => some ([⟨s24, (.pr (.own .imm) .imm), r.1⟩, ⟨s27, (.pr (.own (.own .imm)) .imm), r.2⟩], []) := by
  show _ = bindF _ _
  conv => rhs; simp only [zCN, bindF_ifB, bindF_bindO, bindF_pure, bindF_none, bindF_onSum]
  kernel_rfl
theorem zCN.ok (N : Nat) : ConOk Tryz.prog 85 [.one, .one, .one, .one, .one] (zCN.con N) := ok5 (g := zCN.cfg N) (N := N) (res := [(false, (.pr (.own .imm) .imm)), (false, (.pr (.own (.own .imm)) .imm))]) tys_ok (zCN.cons N) mixed Tryz.func85 (zCN.ls N) rfl (zCN.b N)
theorem zCN.det (N : Nat) : ConDet (zCN.con N) := det5
end Go.AE.F
end
