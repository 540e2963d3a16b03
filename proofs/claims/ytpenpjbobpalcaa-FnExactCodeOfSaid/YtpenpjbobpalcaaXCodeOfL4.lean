/- The printed functions are what the program comes to: contracts. -/
import Derived.Test.YtpenpjbobpalcaaXCodeOfL3
noncomputable section
namespace Go.AE.F
open Go.AE Go.Proofs
set_option maxRecDepth 100000
def zAD.sk4 : Skel := ⟨.pv (.int .i64) :: (dd 2 (.pv .str :: (dd 16 []))), []⟩
def zAD.xs4 : List XS := [⟨.exit 0, [3], ⟨dd 3 (.pv .str :: (dd 16 [])), []⟩⟩]
def zAD.con (N : Nat) : Con := { modes := [.v], ptrs := [false], fn := fn1 (.int .i64) .imm (zAD N) (fun r => [⟨.str, .imm, r⟩]) (fun r => []) }
def zAD.cfg (N : Nat) : Cfg := { ty := tys, keep := [], flt := [], elm := elm0, live := [(4, [0, 3])], ord := [], con := [], loops := [(4, loopCon N zAD.sk4 zAD.xs4 (fun {R} => zAD.l4 (R := R) N))], joins := [] }
theorem zAD.cons (N : Nat) : ConsOk Try.prog TB (zAD.cfg N).con := consOk_nil
theorem zAD.h4 {R : Type} (N : Nat) (d : zAD.sk4.D) (kn : zAD.sk4.D → Option R) (kx : XD zAD.xs4 → Option R) : roundK (zAD.cfg N) N (nthLoop (fnBody Try.f22) 0) zAD.sk4 zAD.xs4 d kn kx = zAD.l4 N d kn kx := by kernel_rfl
theorem zAD.i4 (N : Nat) : LoopsOk Try.prog TB (zAD.cfg N) (nthLoop (fnBody Try.f22) 0) := loopsL (l := []) (by kernel_rfl) trivial
theorem zAD.o4 (N : Nat) : LoopOk Try.prog TB (nthLoop (fnBody Try.f22) 0) (loopCon N zAD.sk4 zAD.xs4 (fun {R} => zAD.l4 (R := R) N)) := loop_ok (g := zAD.cfg N) tys_ok (zAD.cons N) mixed (zAD.i4 N) (fun d kn kx => zAD.h4 N d kn kx)
theorem zAD.ls (N : Nat) : LoopsOk Try.prog TB (zAD.cfg N) (fnBody Try.f22) := loopsL (l := [nthLoop (fnBody Try.f22) 0]) (by kernel_rfl) ⟨loopOne (L0 := loopCon N zAD.sk4 zAD.xs4 (fun {R} => zAD.l4 (R := R) N)) (id := 4) (by kernel_rfl) (by kernel_rfl) (zAD.o4 N), trivial⟩
theorem zAD.q4 {R R' : Type} {N n : Nat} {d} {k} {g : R → Option R'} : bindF (loopP (zAD.l4 N) n d k) g = loopP (zAD.l4 N) n d fun e => bindF (k e) g := bindF_loopP (fun d kn kx => by simp only [zAD.l4, bindF_ifB, bindF_bindO, bindF_pure, bindF_none, bindF_onSum]) n d k
theorem zAD.b (N : Nat) (x0 : den (.int .i64)) : body (zAD.cfg N) N Try.f22 [.one] [.v] [(false, .imm)] [⟨(.int .i64), .imm, x0⟩] (fun r i => some (r, i)) = bindO (zAD N x0) fun r => some ([⟨.str, .imm, r⟩], []) := by
  show _ = bindF _ _
  conv => rhs; simp only [zAD, bindF_ifB, bindF_bindO, bindF_pure, bindF_none, bindF_onSum, zAD.q4]
  kernel_rfl
theorem zAD.ok (N : Nat) : ConOk Try.prog TB 22 [.one] (zAD.con N) := ok1 (g := zAD.cfg N) (N := N) (res := [(false, .imm)]) tys_ok (zAD.cons N) mixed Try.func22 (zAD.ls N) rfl (zAD.b N)
theorem zAD.det (N : Nat) : ConDet (zAD.con N) := det1
def zAB.sk2 : Skel := ⟨.ov 0 [] :: (.pv (.int .i64) :: (dd 3 (.pv (.int .i64) :: (dd 36 [])))), [⟨0, s26, (.own .imm), false, true⟩]⟩
def zAB.xs2 : List XS := [⟨.exit 0, [1], ⟨dd 1 (.pv (.int .i64) :: (dd 40 [])), [⟨0, s26, (.own .imm), false, true⟩]⟩⟩]
def zAB.con (N : Nat) : Con := { modes := [.iov, .v], ptrs := [false], fn := fn2 s26 (.own .imm) (.int .i64) .imm (zAB N) (fun r => [⟨(.int .i64), .imm, r.1⟩]) (fun r => [⟨s26, (.own .imm), r.2⟩]) }
def zAB.cfg (N : Nat) : Cfg := { ty := tys, keep := [29], flt := [], elm := elm0, live := [(2, [0, 1, 5])], ord := [], con := [((22, [.one]), zAD.con N)], loops := [(2, loopCon N zAB.sk2 zAB.xs2 (fun {R} => zAB.l2 (R := R) N))], joins := [] }
theorem zAB.cons (N : Nat) : ConsOk Try.prog TB (zAB.cfg N).con := (consOk_cons (hb22) (zAD.ok N) (zAD.det N) consOk_nil)
theorem zAB.h2 {R : Type} (N : Nat) (d : zAB.sk2.D) (kn : zAB.sk2.D → Option R) (kx : XD zAB.xs2 → Option R) : roundK (zAB.cfg N) N (nthLoop (fnBody Try.f10) 0) zAB.sk2 zAB.xs2 d kn kx = zAB.l2 N d kn kx := by kernel_rfl
theorem zAB.i2 (N : Nat) : LoopsOk Try.prog TB (zAB.cfg N) (nthLoop (fnBody Try.f10) 0) := loopsL (l := []) (by kernel_rfl) trivial
theorem zAB.o2 (N : Nat) : LoopOk Try.prog TB (nthLoop (fnBody Try.f10) 0) (loopCon N zAB.sk2 zAB.xs2 (fun {R} => zAB.l2 (R := R) N)) := loop_ok (g := zAB.cfg N) tys_ok (zAB.cons N) mixed (zAB.i2 N) (fun d kn kx => zAB.h2 N d kn kx)
theorem zAB.ls (N : Nat) : LoopsOk Try.prog TB (zAB.cfg N) (fnBody Try.f10) := loopsL (l := [nthLoop (fnBody Try.f10) 0]) (by kernel_rfl) ⟨loopOne (L0 := loopCon N zAB.sk2 zAB.xs2 (fun {R} => zAB.l2 (R := R) N)) (id := 2) (by kernel_rfl) (by kernel_rfl) (zAB.o2 N), trivial⟩
theorem zAB.q2 {R R' : Type} {N n : Nat} {d} {k} {g : R → Option R'} : bindF (loopP (zAB.l2 N) n d k) g = loopP (zAB.l2 N) n d fun e => bindF (k e) g := bindF_loopP (fun d kn kx => by simp only [zAB.l2, bindF_ifB, bindF_bindO, bindF_pure, bindF_none, bindF_onSum]) n d k
theorem zAB.b (N : Nat) (x0 : den s26) (x1 : den (.int .i64)) : body (zAB.cfg N) N Try.f10 [.one, .one] [.iov, .v] [(false, .imm)] [⟨s26, (.own .imm), x0⟩, ⟨(.int .i64), .imm, x1⟩] (fun r i => some (r, i)) = bindO (zAB N x0 x1) fun r => some ([⟨(.int .i64), .imm, r.1⟩], [⟨s26, (.own .imm), r.2⟩]) := by
  show _ = bindF _ _
  conv => rhs; simp only [zAB, bindF_ifB, bindF_bindO, bindF_pure, bindF_none, bindF_onSum, zAB.q2]
  kernel_rfl
theorem zAB.ok (N : Nat) : ConOk Try.prog TB 10 [.one, .one] (zAB.con N) := ok2 (g := zAB.cfg N) (N := N) (res := [(false, .imm)]) tys_ok (zAB.cons N) mixed Try.func10 (zAB.ls N) rfl (zAB.b N)
theorem zAB.det (N : Nat) : ConDet (zAB.con N) := det2
def zAI.sk2 : Skel := ⟨.ov 0 [] :: (.pv (.int .i64) :: (dd 3 (.pv (.int .i64) :: (dd 21 [])))), [⟨0, s24, (.own .imm), false, true⟩]⟩
def zAI.xs2 : List XS := [⟨.exit 0, [1], ⟨dd 1 (.pv (.int .i64) :: (dd 25 [])), [⟨0, s24, (.own .imm), false, true⟩]⟩⟩]
def zAI.con (N : Nat) : Con := { modes := [.iov, .v], ptrs := [false], fn := fn2 s24 (.own .imm) (.int .i64) .imm (zAI N) (fun r => [⟨(.int .i64), .imm, r.1⟩]) (fun r => [⟨s24, (.own .imm), r.2⟩]) }
def zAI.cfg (N : Nat) : Cfg := { ty := tys, keep := [], flt := [], elm := elm0, live := [(2, [0, 1, 5])], ord := [], con := [], loops := [(2, loopCon N zAI.sk2 zAI.xs2 (fun {R} => zAI.l2 (R := R) N))], joins := [] }
theorem zAI.cons (N : Nat) : ConsOk Try.prog TB (zAI.cfg N).con := consOk_nil
theorem zAI.h2 {R : Type} (N : Nat) (d : zAI.sk2.D) (kn : zAI.sk2.D → Option R) (kx : XD zAI.xs2 → Option R) : roundK (zAI.cfg N) N (nthLoop (fnBody Try.f11) 0) zAI.sk2 zAI.xs2 d kn kx = zAI.l2 N d kn kx := by kernel_rfl
theorem zAI.i2 (N : Nat) : LoopsOk Try.prog TB (zAI.cfg N) (nthLoop (fnBody Try.f11) 0) := loopsL (l := []) (by kernel_rfl) trivial
theorem zAI.o2 (N : Nat) : LoopOk Try.prog TB (nthLoop (fnBody Try.f11) 0) (loopCon N zAI.sk2 zAI.xs2 (fun {R} => zAI.l2 (R := R) N)) := loop_ok (g := zAI.cfg N) tys_ok (zAI.cons N) mixed (zAI.i2 N) (fun d kn kx => zAI.h2 N d kn kx)
theorem zAI.ls (N : Nat) : LoopsOk Try.prog TB (zAI.cfg N) (fnBody Try.f11) := loopsL (l := [nthLoop (fnBody Try.f11) 0]) (by kernel_rfl) ⟨loopOne (L0 := loopCon N zAI.sk2 zAI.xs2 (fun {R} => zAI.l2 (R := R) N)) (id := 2) (by kernel_rfl) (by kernel_rfl) (zAI.o2 N), trivial⟩
theorem zAI.q2 {R R' : Type} {N n : Nat} {d} {k} {g : R → Option R'} : bindF (loopP (zAI.l2 N) n d k) g = loopP (zAI.l2 N) n d fun e => bindF (k e) g := bindF_loopP (fun d kn kx => by simp only [zAI.l2, bindF_ifB, bindF_bindO, bindF_pure, bindF_none, bindF_onSum]) n d k
theorem zAI.b (N : Nat) (x0 : den s24) (x1 : den (.int .i64)) : body (zAI.cfg N) N Try.f11 [.one, .one] [.iov, .v] [(false, .imm)] [⟨s24, (.own .imm), x0⟩, ⟨(.int .i64), .imm, x1⟩] (fun r i => some (r, i)) = bindO (zAI N x0 x1) fun r => some ([⟨(.int .i64), .imm, r.1⟩], [⟨s24, (.own .imm), r.2⟩]) := by
  show _ = bindF _ _
  conv => rhs; simp only [zAI, bindF_ifB, bindF_bindO, bindF_pure, bindF_none, bindF_onSum, zAI.q2]
  kernel_rfl
theorem zAI.ok (N : Nat) : ConOk Try.prog TB 11 [.one, .one] (zAI.con N) := ok2 (g := zAI.cfg N) (N := N) (res := [(false, .imm)]) tys_ok (zAI.cons N) mixed Try.func11 (zAI.ls N) rfl (zAI.b N)
theorem zAI.det (N : Nat) : ConDet (zAI.con N) := det2
def zAH.sk2 : Skel := ⟨.pv s24 :: (.pv (.int .i64) :: (dd 3 (.pv (.int .i64) :: (dd 25 [])))), []⟩
def zAH.xs2 : List XS := [⟨.exit 0, [1], ⟨dd 1 (.pv (.int .i64) :: (dd 29 [])), []⟩⟩, ⟨.ret, [4], ⟨dd 4 (.pv (.int .i64) :: (dd 26 [])), []⟩⟩]
def zAH.con (N : Nat) : Con := { modes := [.v, .v], ptrs := [false], fn := fn2 s24 .imm (.int .i64) .imm (zAH N) (fun r => [⟨(.int .i64), .imm, r⟩]) (fun r => []) }
def zAH.cfg (N : Nat) : Cfg := { ty := tys, keep := [], flt := [], elm := elm0, live := [(2, [0, 1, 5])], ord := [], con := [], loops := [(2, loopCon N zAH.sk2 zAH.xs2 (fun {R} => zAH.l2 (R := R) N))], joins := [] }
theorem zAH.cons (N : Nat) : ConsOk Try.prog TB (zAH.cfg N).con := consOk_nil
theorem zAH.h2 {R : Type} (N : Nat) (d : zAH.sk2.D) (kn : zAH.sk2.D → Option R) (kx : XD zAH.xs2 → Option R) : roundK (zAH.cfg N) N (nthLoop (fnBody Try.f12) 0) zAH.sk2 zAH.xs2 d kn kx = zAH.l2 N d kn kx := by kernel_rfl
theorem zAH.i2 (N : Nat) : LoopsOk Try.prog TB (zAH.cfg N) (nthLoop (fnBody Try.f12) 0) := loopsL (l := []) (by kernel_rfl) trivial
theorem zAH.o2 (N : Nat) : LoopOk Try.prog TB (nthLoop (fnBody Try.f12) 0) (loopCon N zAH.sk2 zAH.xs2 (fun {R} => zAH.l2 (R := R) N)) := loop_ok (g := zAH.cfg N) tys_ok (zAH.cons N) mixed (zAH.i2 N) (fun d kn kx => zAH.h2 N d kn kx)
theorem zAH.ls (N : Nat) : LoopsOk Try.prog TB (zAH.cfg N) (fnBody Try.f12) := loopsL (l := [nthLoop (fnBody Try.f12) 0]) (by kernel_rfl) ⟨loopOne (L0 := loopCon N zAH.sk2 zAH.xs2 (fun {R} => zAH.l2 (R := R) N)) (id := 2) (by kernel_rfl) (by kernel_rfl) (zAH.o2 N), trivial⟩
theorem zAH.q2 {R R' : Type} {N n : Nat} {d} {k} {g : R → Option R'} : bindF (loopP (zAH.l2 N) n d k) g = loopP (zAH.l2 N) n d fun e => bindF (k e) g := bindF_loopP (fun d kn kx => by simp only [zAH.l2, bindF_ifB, bindF_bindO, bindF_pure, bindF_none, bindF_onSum]) n d k
theorem zAH.b (N : Nat) (x0 : den s24) (x1 : den (.int .i64)) : body (zAH.cfg N) N Try.f12 [.one, .one] [.v, .v] [(false, .imm)] [⟨s24, .imm, x0⟩, ⟨(.int .i64), .imm, x1⟩] (fun r i => some (r, i)) = bindO (zAH N x0 x1) fun r => some ([⟨(.int .i64), .imm, r⟩], []) := by
  show _ = bindF _ _
  conv => rhs; simp only [zAH, bindF_ifB, bindF_bindO, bindF_pure, bindF_none, bindF_onSum, zAH.q2]
  kernel_rfl
theorem zAH.ok (N : Nat) : ConOk Try.prog TB 12 [.one, .one] (zAH.con N) := ok2 (g := zAH.cfg N) (N := N) (res := [(false, .imm)]) tys_ok (zAH.cons N) mixed Try.func12 (zAH.ls N) rfl (zAH.b N)
theorem zAH.det (N : Nat) : ConDet (zAH.con N) := det2
def zAP.con (N : Nat) : Con := { modes := [.v], ptrs := [false], fn := fn1 s22 .imm (zAP N) (fun r => [⟨.bool, .imm, r⟩]) (fun r => []) }
def zAP.cfg (N : Nat) : Cfg := { ty := tys, keep := [13, 17, 18, 20, 22, 25, 29, 30, 34, 40, 45, 48, 55, 56, 59, 63], flt := [], elm := elm0, live := [], ord := [], con := [((4, [.one, .one]), zAK.con N), ((6, [.one]), zAE.con N), ((5, [.one]), zB5.con N), ((7, [.one]), zB9.con N), ((8, [.one, .one]), zAM.con N), ((9, [.one, .one]), zAJ.con N), ((10, [.one, .one]), zAB.con N), ((11, [.one, .one]), zAI.con N), ((12, [.one, .one]), zAH.con N)], loops := [], joins := [] }
theorem zAP.cons (N : Nat) : ConsOk Try.prog TB (zAP.cfg N).con := (consOk_cons (hb4) (zAK.ok N) (zAK.det N) (consOk_cons (hb6) (zAE.ok N) (zAE.det N) (consOk_cons (hb5) (zB5.ok N) (zB5.det N) (consOk_cons (hb7) (zB9.ok N) (zB9.det N) (consOk_cons (hb8) (zAM.ok N) (zAM.det N) (consOk_cons (hb9) (zAJ.ok N) (zAJ.det N) (consOk_cons (hb10) (zAB.ok N) (zAB.det N) (consOk_cons (hb11) (zAI.ok N) (zAI.det N) (consOk_cons (hb12) (zAH.ok N) (zAH.det N) consOk_nil)))))))))
theorem zAP.ls (N : Nat) : LoopsOk Try.prog TB (zAP.cfg N) (fnBody Try.f3) := loopsL (l := []) (by kernel_rfl) trivial
theorem zAP.b (N : Nat) (x0 : den s22) : body (zAP.cfg N) N Try.f3 [.one] [.v] [(false, .imm)] [⟨s22, .imm, x0⟩] (fun r i => some (r, i)) = bindO (zAP N x0) fun r => some ([⟨.bool, .imm, r⟩], []) := by
  show _ = bindF _ _
  conv => rhs; simp only [zAP, bindF_ifB, bindF_bindO, bindF_pure, bindF_none, bindF_onSum]
  kernel_rfl
theorem zAP.ok (N : Nat) : ConOk Try.prog TB 3 [.one] (zAP.con N) := ok1 (g := zAP.cfg N) (N := N) (res := [(false, .imm)]) tys_ok (zAP.cons N) mixed Try.func3 (zAP.ls N) rfl (zAP.b N)
theorem zAP.det (N : Nat) : ConDet (zAP.con N) := det1
end Go.AE.F
end
