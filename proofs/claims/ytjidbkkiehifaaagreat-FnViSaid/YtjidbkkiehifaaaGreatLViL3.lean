/- The printed functions are what the program comes to: contracts. -/
import Derived.Test.YtjidbkkiehifaaaGreatLViL2
noncomputable section
namespace Go.AE.F
open Go.AE Go.Proofs
set_option maxRecDepth 100000
def zBH.con (N : Nat) : Con := { modes := [.v, .v, .v, .v, .v], ptrs := [false], fn := fn5 s24 .imm s27 .imm (.int .u8) .imm (.int .u8) .imm (.int .i64) .imm (zBH N) (fun r => [⟨s31, .imm, r⟩]) (fun r => []) }
def zBH.cfg (N : Nat) : Cfg := { ty := tys, keep := [], flt := [], elm := elm0, live := [], ord := [(10, [14, 15, 0, 1, 2, 3, 5, 6, 8, 9, 4, 7, 10, 11, 12, 13, 16, 17])], con := [((83, [.one]), zAY.con N), ((73, [.one, .one]), zAK.con N), ((72, [.one, .one]), zAU.con N), ((84, [.one, .one, .one, .one]), zB4.con N), ((69, [.one, .one]), zBR.con N), ((66, [.one, .one]), zBY.con N), ((85, [.one, .one, .one, .one, .one]), zCN.con N)], loops := [], joins := [(10, [⟨.normal, [2, 5, 6, 10, 11, 12], ⟨dd 2 (.pv (.int .u8) :: (dd 2 (.ptr 50 [] :: (.ptr 51 [] :: (dd 3 (.ptr 52 [] :: (.pv (.int .i64) :: (.pv (.int .i64) :: (dd 53 []))))))))), [⟨50, s24, .imm, true, false⟩, ⟨51, s27, .imm, true, false⟩, ⟨52, s31, (.pr (.pr (.own .imm) .imm) (.pr (.pr (.own (.own .imm)) .imm) .imm)), true, false⟩]⟩⟩, ⟨.ret, [10], ⟨dd 10 (.ptr 50 [] :: (dd 55 [])), [⟨50, s31, (.pr (.pr (.own .imm) .imm) (.pr (.pr (.own (.own .imm)) .imm) .imm)), true, false⟩]⟩⟩])] }
theorem zBH.cons (N : Nat) : ConsOk Tryz.prog (zBH.cfg N).con := (consOk_cons (hb83) (zAY.ok N) (zAY.det N) (consOk_cons (hb73) (zAK.ok N) (zAK.det N) (consOk_cons (hb72) (zAU.ok N) (zAU.det N) (consOk_cons (hb84) (zB4.ok N) (zB4.det N) (consOk_cons (hb69) (zBR.ok N) (zBR.det N) (consOk_cons (hb66) (zBY.ok N) (zBY.det N) (consOk_cons (hb85) (zCN.ok N) (zCN.det N) consOk_nil)))))))
theorem zBH.ls (N : Nat) : LoopsOk Tryz.prog (zBH.cfg N) (fnBody Tryz.f67) := loopsL (l := []) (by kernel_rfl) trivial
theorem zBH.b (N : Nat) (x0 : den s24) (x1 : den s27) (x2 : den (.int .u8)) (x3 : den (.int .u8)) (x4 : den (.int .i64)) : body (zBH.cfg N) N Tryz.f67 [.one, .one, .one, .one, .one] [.v, .v, .v, .v, .v] [(false, .imm)] [⟨s24, .imm, x0⟩, ⟨s27, .imm, x1⟩, ⟨(.int .u8), .imm, x2⟩, ⟨(.int .u8), .imm, x3⟩, ⟨(.int .i64), .imm, x4⟩] (fun r i => some (r, i)) = bindO (zBH N x0 x1 x2 x3 x4) fun r => some ([⟨s31, .imm, r⟩], []) := by
  show _ = bindF _ _
  conv => rhs; simp only [zBH, bindF_ifB, bindF_bindO, bindF_pure, bindF_none, bindF_onSum]
  kernel_rfl
theorem zBH.ok (N : Nat) : ConOk Tryz.prog 67 [.one, .one, .one, .one, .one] (zBH.con N) := ok5 (g := zBH.cfg N) (N := N) (res := [(false, .imm)]) tys_ok (zBH.cons N) mixed Tryz.func67 (zBH.ls N) rfl (zBH.b N)
theorem zBH.det (N : Nat) : ConDet (zBH.con N) := det5
def zCR.con (N : Nat) : Con := { modes := [.v], ptrs := [false], fn := fn1 s27 .imm (zCR N) (fun r => [⟨s23, (.own .imm), r⟩]) (fun r => []) }
def zCR.cfg (N : Nat) : Cfg := { ty := tys, keep := [4, 19], flt := [], elm := elm0, live := [], ord := [], con := [((18, [.one]), zBF.con N), ((64, [.one]), zBI.con N)], loops := [], joins := [] }
theorem zCR.cons (N : Nat) : ConsOk Tryz.prog (zCR.cfg N).con := (consOk_cons (hb18) (zBF.ok N) (zBF.det N) (consOk_cons (hb64) (zBI.ok N) (zBI.det N) consOk_nil))
theorem zCR.ls (N : Nat) : LoopsOk Tryz.prog (zCR.cfg N) (fnBody Tryz.f101) := loopsL (l := []) (by kernel_rfl) trivial
theorem zCR.b (N : Nat) (x0 : den s27) : body (zCR.cfg N) N Tryz.f101 [.one] [.v] [(false, (.own .imm))] [⟨s27, .imm, x0⟩] (fun r i => some (r, i)) = bindO (zCR N x0) fun r => some ([⟨s23, (.own .imm), r⟩], []) := by
  show _ = bindF _ _
  conv => rhs; simp only [zCR, bindF_ifB, bindF_bindO, bindF_pure, bindF_none, bindF_onSum]
  kernel_rfl
theorem zCR.ok (N : Nat) : ConOk Tryz.prog 101 [.one] (zCR.con N) := ok1 (g := zCR.cfg N) (N := N) (res := [(false, (.own .imm))]) tys_ok (zCR.cons N) mixed Tryz.func101 (zCR.ls N) rfl (zCR.b N)
theorem zCR.det (N : Nat) : ConDet (zCR.con N) := det1
def zCA.con (N : Nat) : Con := { modes := [.v, .v], ptrs := [false], fn := fn2 s24 .imm s23 .imm (zCA N) (fun r => [⟨s88, (.pr (.pr (.own .imm) .imm) (.pr (.own .imm) .imm)), r⟩]) (fun r => []) }
def zCA.cfg (N : Nat) : Cfg := { ty := tys, keep := [11], flt := [], elm := elm0, live := [], ord := [], con := [((70, [.one, .one, .one, .one]), zBE.con N)], loops := [], joins := [] }
theorem zCA.cons (N : Nat) : ConsOk Tryz.prog (zCA.cfg N).con := (consOk_cons (hb70) (zBE.ok N) (zBE.det N) consOk_nil)
theorem zCA.ls (N : Nat) : LoopsOk Tryz.prog (zCA.cfg N) (fnBody Tryz.f102) := loopsL (l := []) (by kernel_rfl) trivial
theorem zCA.b (N : Nat) (x0 : den s24) (x1 : den s23) : body (zCA.cfg N) N Tryz.f102 [.one, .one] [.v, .v] [(false, (.pr (.pr (.own .imm) .imm) (.pr (.own .imm) .imm)))] [⟨s24, .imm, x0⟩, ⟨s23, .imm, x1⟩] (fun r i => some (r, i)) = bindO (zCA N x0 x1) fun r => some ([⟨s88, (.pr (.pr (.own .imm) .imm) (.pr (.own .imm) .imm)), r⟩], []) := by
  show _ = bindF _ _
  conv => rhs; simp only [zCA, bindF_ifB, bindF_bindO, bindF_pure, bindF_none, bindF_onSum]
  kernel_rfl
theorem zCA.ok (N : Nat) : ConOk Tryz.prog 102 [.one, .one] (zCA.con N) := ok2 (g := zCA.cfg N) (N := N) (res := [(false, (.pr (.pr (.own .imm) .imm) (.pr (.own .imm) .imm)))]) tys_ok (zCA.cons N) mixed Tryz.func102 (zCA.ls N) rfl (zCA.b N)
theorem zCA.det (N : Nat) : ConDet (zCA.con N) := det2
def zCJ.con (N : Nat) : Con := { modes := [.v, .v], ptrs := [false], fn := fn2 s27 .imm s24 .imm (zCJ N) (fun r => [⟨s78, (.pr (.pr (.own .imm) .imm) .imm), r⟩]) (fun r => []) }
def zCJ.cfg (N : Nat) : Cfg := { ty := tys, keep := [8, 12, 22, 25], flt := [], elm := elm0, live := [], ord := [], con := [((18, [.one]), zBF.con N), ((17, [.one]), zB9.con N), ((101, [.one]), zCR.con N), ((102, [.one, .one]), zCA.con N)], loops := [], joins := [] }
theorem zCJ.cons (N : Nat) : ConsOk Tryz.prog (zCJ.cfg N).con := (consOk_cons (hb18) (zBF.ok N) (zBF.det N) (consOk_cons (hb17) (zB9.ok N) (zB9.det N) (consOk_cons (hb101) (zCR.ok N) (zCR.det N) (consOk_cons (hb102) (zCA.ok N) (zCA.det N) consOk_nil))))
theorem zCJ.ls (N : Nat) : LoopsOk Tryz.prog (zCJ.cfg N) (fnBody Tryz.f86) := loopsL (l := []) (by kernel_rfl) trivial
theorem zCJ.b (N : Nat) (x0 : den s27) (x1 : den s24) : body (zCJ.cfg N) N Tryz.f86 [.one, .one] [.v, .v] [(false, (.pr (.pr (.own .imm) .imm) .imm))] [⟨s27, .imm, x0⟩, ⟨s24, .imm, x1⟩] (fun r i => some (r, i)) = bindO (zCJ N x0 x1) fun r => some ([⟨s78, (.pr (.pr (.own .imm) .imm) .imm), r⟩], []) := by
  show _ = bindF _ _
  conv => rhs; simp only [zCJ, bindF_ifB, bindF_bindO, bindF_pure, bindF_none, bindF_onSum]
  kernel_rfl
theorem zCJ.ok (N : Nat) : ConOk Tryz.prog 86 [.one, .one] (zCJ.con N) := ok2 (g := zCJ.cfg N) (N := N) (res := [(false, (.pr (.pr (.own .imm) .imm) .imm))]) tys_ok (zCJ.cons N) mixed Tryz.func86 (zCJ.ls N) rfl (zCJ.b N)
theorem zCJ.det (N : Nat) : ConDet (zCJ.con N) := det2
def zB2.sk4 : Skel := ⟨dd 3 (.pv (.int .i64) :: (dd 1 (.ptr 50 [] :: (dd 2 (.ptr 51 [] :: (.ptr 52 [] :: (dd 35 []))))))), [⟨50, s27, .imm, true, false⟩, ⟨51, s31, (.pr (.pr (.own .imm) .imm) (.pr (.pr (.own (.own .imm)) .imm) .imm)), true, false⟩, ⟨52, s24, (.pr (.own .imm) .imm), true, false⟩]⟩
def zB2.xs4 : List XS := [⟨.exit 0, [5, 8, 9], ⟨dd 5 (.ptr 50 [] :: (dd 2 (.ptr 51 [] :: (.ptr 52 [] :: (dd 35 []))))), [⟨50, s27, .imm, true, false⟩, ⟨51, s31, (.pr (.pr (.own .imm) .imm) (.pr (.pr (.own (.own .imm)) .imm) .imm)), true, false⟩, ⟨52, s24, (.pr (.own .imm) .imm), true, false⟩]⟩⟩, ⟨.ret, [8], ⟨dd 8 (.ptr 50 [] :: (dd 36 [])), [⟨50, s31, (.pr (.pr (.own .imm) .imm) (.pr (.pr (.own (.own .imm)) .imm) .imm)), true, false⟩]⟩⟩]
def zB2.con (N : Nat) : Con := { modes := [.v, .v, .v, .v], ptrs := [false], fn := fn4 s24 .imm s27 .imm .bool .imm (.int .i64) .imm (zB2 N) (fun r => [⟨s31, (.pr (.pr (.own .imm) .imm) (.pr (.pr (.own (.own .imm)) .imm) .imm)), r⟩]) (fun r => []) }
def zB2.cfg (N : Nat) : Cfg := { ty := tys, keep := [12, 32, 43], flt := [], elm := elm0, live := [(4, [3, 5, 8, 9])], ord := [(10, [0, 1, 2, 3, 4])], con := [((39, [.one]), zBV.con N), ((86, [.one, .one]), zCJ.con N), ((40, [.one]), zBL.con N)], loops := [(4, loopCon N zB2.sk4 zB2.xs4 (fun {R} => zB2.l4 (R := R) N))], joins := [] }
theorem zB2.cons (N : Nat) : ConsOk Tryz.prog (zB2.cfg N).con := (consOk_cons (hb39) (zBV.ok N) (zBV.det N) (consOk_cons (hb86) (zCJ.ok N) (zCJ.det N) (consOk_cons (hb40) (zBL.ok N) (zBL.det N) consOk_nil)))
theorem zB2.h4 {R : Type} (N : Nat) (d : zB2.sk4.D) (kn : zB2.sk4.D → Option R) (kx : XD zB2.xs4 → Option R) : roundK (zB2.cfg N) N (nthLoop (fnBody Tryz.f68) 0) zB2.sk4 zB2.xs4 d kn kx = zB2.l4 N d kn kx := by kernel_rfl
theorem zB2.i4 (N : Nat) : LoopsOk Tryz.prog (zB2.cfg N) (nthLoop (fnBody Tryz.f68) 0) := loopsL (l := []) (by kernel_rfl) trivial
theorem zB2.o4 (N : Nat) : LoopOk Tryz.prog (nthLoop (fnBody Tryz.f68) 0) (loopCon N zB2.sk4 zB2.xs4 (fun {R} => zB2.l4 (R := R) N)) := loop_ok (g := zB2.cfg N) tys_ok (zB2.cons N) mixed (zB2.i4 N) (fun d kn kx => zB2.h4 N d kn kx)
theorem zB2.ls (N : Nat) : LoopsOk Tryz.prog (zB2.cfg N) (fnBody Tryz.f68) := loopsL (l := [nthLoop (fnBody Tryz.f68) 0]) (by kernel_rfl) ⟨loopOne (L0 := loopCon N zB2.sk4 zB2.xs4 (fun {R} => zB2.l4 (R := R) N)) (id := 4) (by kernel_rfl) (by kernel_rfl) (zB2.o4 N), trivial⟩
theorem zB2.q4 {R R' : Type} {N n : Nat} {d} {k} {g : R → Option R'} : bindF (loopP (zB2.l4 N) n d k) g = loopP (zB2.l4 N) n d fun e => bindF (k e) g := bindF_loopP (fun d kn kx => by simp only [zB2.l4, bindF_ifB, bindF_bindO, bindF_pure, bindF_none, bindF_onSum]) n d k
theorem zB2.b (N : Nat) (x0 : den s24) (x1 : den s27) (x2 : den .bool) (x3 : den (.int .i64)) : body (zB2.cfg N) N Tryz.f68 [.one, .one, .one, .one] [.v, .v, .v, .v] [(false, (.pr (.pr (.own .imm) .imm) (.pr (.pr (.own (.own .imm)) .imm) .imm)))] [⟨s24, .imm, x0⟩, ⟨s27, .imm, x1⟩, ⟨.bool, .imm, x2⟩, ⟨(.int .i64), .imm, x3⟩] (fun r i => some (r, i)) = bindO (zB2 N x0 x1 x2 x3) fun r => some ([⟨s31, (.pr (.pr (.own .imm) .imm) (.pr (.pr (.own (.own .imm)) .imm) .imm)), r⟩], []) := by
  show _ = bindF _ _
  conv => rhs; simp only [zB2, bindF_ifB, bindF_bindO, bindF_pure, bindF_none, bindF_onSum, zB2.q4]
  kernel_rfl
theorem zB2.ok (N : Nat) : ConOk Tryz.prog 68 [.one, .one, .one, .one] (zB2.con N) := ok4 (g := zB2.cfg N) (N := N) (res := [(false, (.pr (.pr (.own .imm) .imm) (.pr (.pr (.own (.own .imm)) .imm) .imm)))]) tys_ok (zB2.cons N) mixed Tryz.func68 (zB2.ls N) rfl (zB2.b N)
theorem zB2.det (N : Nat) : ConDet (zB2.con N) := det4
def zAP.sk3 : Skel := ⟨.pv s23 :: (dd 2 (.ov 50 [] :: (.pv (.int .i64) :: (dd 33 [])))), [⟨50, s23, (.own .imm), false, false⟩]⟩
def zAP.xs3 : List XS := [⟨.exit 0, [3], ⟨dd 3 (.ov 50 [] :: (dd 34 [])), [⟨50, s23, (.own .imm), false, false⟩]⟩⟩]
def zAP.con (N : Nat) : Con := { modes := [.v], ptrs := [false], fn := fn1 s23 .imm (zAP N) (fun r => [⟨s23, (.own .imm), r⟩]) (fun r => []) }
def zAP.cfg (N : Nat) : Cfg := { ty := tys, keep := [], flt := [], elm := elm0, live := [(3, [0, 3, 4, 20, 21, 28, 29])], ord := [], con := [], loops := [(3, loopCon N zAP.sk3 zAP.xs3 (fun {R} => zAP.l3 (R := R) N))], joins := [(4, [⟨.normal, [0, 3, 4, 20, 21, 28, 29], ⟨.pv s23 :: (dd 2 (.ov 50 [] :: (.pv (.int .i64) :: (dd 33 [])))), [⟨50, s23, (.own .imm), false, false⟩]⟩⟩])] }
theorem zAP.cons (N : Nat) : ConsOk Tryz.prog (zAP.cfg N).con := consOk_nil
theorem zAP.h3 {R : Type} (N : Nat) (d : zAP.sk3.D) (kn : zAP.sk3.D → Option R) (kx : XD zAP.xs3 → Option R) : roundK (zAP.cfg N) N (nthLoop (fnBody Tryz.f71) 0) zAP.sk3 zAP.xs3 d kn kx = zAP.l3 N d kn kx := by kernel_rfl
theorem zAP.i3 (N : Nat) : LoopsOk Tryz.prog (zAP.cfg N) (nthLoop (fnBody Tryz.f71) 0) := loopsL (l := []) (by kernel_rfl) trivial
theorem zAP.o3 (N : Nat) : LoopOk Tryz.prog (nthLoop (fnBody Tryz.f71) 0) (loopCon N zAP.sk3 zAP.xs3 (fun {R} => zAP.l3 (R := R) N)) := loop_ok (g := zAP.cfg N) tys_ok (zAP.cons N) mixed (zAP.i3 N) (fun d kn kx => zAP.h3 N d kn kx)
theorem zAP.ls (N : Nat) : LoopsOk Tryz.prog (zAP.cfg N) (fnBody Tryz.f71) := loopsL (l := [nthLoop (fnBody Tryz.f71) 0]) (by kernel_rfl) ⟨loopOne (L0 := loopCon N zAP.sk3 zAP.xs3 (fun {R} => zAP.l3 (R := R) N)) (id := 3) (by kernel_rfl) (by kernel_rfl) (zAP.o3 N), trivial⟩
theorem zAP.q3 {R R' : Type} {N n : Nat} {d} {k} {g : R → Option R'} : bindF (loopP (zAP.l3 N) n d k) g = loopP (zAP.l3 N) n d fun e => bindF (k e) g := bindF_loopP (fun d kn kx => by simp only [zAP.l3, bindF_ifB, bindF_bindO, bindF_pure, bindF_none, bindF_onSum]) n d k
theorem zAP.b (N : Nat) (x0 : den s23) : body (zAP.cfg N) N Tryz.f71 [.one] [.v] [(false, (.own .imm))] [⟨s23, .imm, x0⟩] (fun r i => some (r, i)) = bindO (zAP N x0) fun r => some ([⟨s23, (.own .imm), r⟩], []) := by
  show _ = bindF _ _
  conv => rhs; simp only [zAP, bindF_ifB, bindF_bindO, bindF_pure, bindF_none, bindF_onSum, zAP.q3]
  kernel_rfl
theorem zAP.ok (N : Nat) : ConOk Tryz.prog 71 [.one] (zAP.con N) := ok1 (g := zAP.cfg N) (N := N) (res := [(false, (.own .imm))]) tys_ok (zAP.cons N) mixed Tryz.func71 (zAP.ls N) rfl (zAP.b N)
theorem zAP.det (N : Nat) : ConDet (zAP.con N) := det1
def zCK.con (N : Nat) : Con := { modes := [.v, .v, .v], ptrs := [false], fn := fn3 s24 .imm (.int .i64) .imm (.int .i64) .imm (zCK N) (fun r => [⟨(.int .i64), .imm, r⟩]) (fun r => []) }
def zCK.cfg (N : Nat) : Cfg := { ty := tys, keep := [9, 15], flt := [], elm := elm0, live := [], ord := [], con := [((83, [.one]), zAY.con N), ((84, [.one, .one, .one, .one]), zB4.con N)], loops := [], joins := [] }
theorem zCK.cons (N : Nat) : ConsOk Tryz.prog (zCK.cfg N).con := (consOk_cons (hb83) (zAY.ok N) (zAY.det N) (consOk_cons (hb84) (zB4.ok N) (zB4.det N) consOk_nil))
theorem zCK.ls (N : Nat) : LoopsOk Tryz.prog (zCK.cfg N) (fnBody Tryz.f74) := loopsL (l := []) (by kernel_rfl) trivial
theorem zCK.b (N : Nat) (x0 : den s24) (x1 : den (.int .i64)) (x2 : den (.int .i64)) : body (zCK.cfg N) N Tryz.f74 [.one, .one, .one] [.v, .v, .v] [(false, .imm)] [⟨s24, .imm, x0⟩, ⟨(.int .i64), .imm, x1⟩, ⟨(.int .i64), .imm, x2⟩] (fun r i => some (r, i)) = bindO (zCK N x0 x1 x2) fun r => some ([⟨(.int .i64), .imm, r⟩], []) := by
  show _ = bindF _ _
  conv => rhs; simp only [zCK, bindF_ifB, bindF_bindO, bindF_pure, bindF_none, bindF_onSum]
  kernel_rfl
theorem zCK.ok (N : Nat) : ConOk Tryz.prog 74 [.one, .one, .one] (zCK.con N) := ok3 (g := zCK.cfg N) (N := N) (res := [(false, .imm)]) tys_ok (zCK.cons N) mixed Tryz.func74 (zCK.ls N) rfl (zCK.b N)
theorem zCK.det (N : Nat) : ConDet (zCK.con N) := det3
def zBA.sk3 : Skel := ⟨dd 2 (.pv .str :: (.ptr 50 [] :: (.ptr 51 [] :: (dd 1 (.ptr 52 [] :: (.pv (.int .i64) :: (.pv (.int .i64) :: (dd 179 [])))))))), [⟨50, s24, .imm, true, false⟩, ⟨51, s27, .imm, true, false⟩, ⟨52, s31, (.pr (.pr (.own .imm) .imm) (.pr (.pr (.own (.own .imm)) .imm) .imm)), true, false⟩]⟩
def zBA.xs3 : List XS := [⟨.exit 0, [2, 3, 4, 6, 7, 8], ⟨dd 2 (.pv .str :: (.ptr 50 [] :: (.ptr 51 [] :: (dd 1 (.ptr 52 [] :: (.pv (.int .i64) :: (.pv (.int .i64) :: (dd 179 [])))))))), [⟨50, s24, .imm, true, false⟩, ⟨51, s27, .imm, true, false⟩, ⟨52, s31, (.pr (.pr (.own .imm) .imm) (.pr (.pr (.own (.own .imm)) .imm) .imm)), true, false⟩]⟩⟩]
def zBA.con (N : Nat) : Con := { modes := [.v, .v, .v], ptrs := [false], fn := fn3 s24 .imm s27 .imm .str .imm (zBA N) (fun r => [⟨s31, .imm, r⟩]) (fun r => []) }
def zBA.cfg (N : Nat) : Cfg := { ty := tys, keep := [63, 70, 72, 107, 115, 124, 132, 143, 144, 163, 170, 177, 82], flt := [], elm := elm0, live := [(3, [2, 3, 4, 6, 7, 8, 21, 22, 25, 26, 27, 28, 31, 32, 33, 34, 37, 38, 39, 40, 41, 42, 43, 44, 45])], ord := [(26, [0, 1, 2, 3, 4, 5, 6, 7, 8]), (35, [0, 1, 2, 3, 4, 5, 6, 7, 8, 9, 10, 11, 12, 13])], con := [((66, [.one, .one]), zBY.con N), ((39, [.one]), zBV.con N), ((40, [.one]), zBL.con N), ((67, [.one, .one, .one, .one, .one]), zBH.con N), ((68, [.one, .one, .one, .one]), zB2.con N), ((69, [.one, .one]), zBR.con N), ((71, [.one]), zAP.con N), ((70, [.one, .one, .one, .one]), zBE.con N), ((72, [.one, .one]), zAU.con N), ((73, [.one, .one]), zAK.con N), ((74, [.one, .one, .one]), zCK.con N)], loops := [(3, loopCon N zBA.sk3 zBA.xs3 (fun {R} => zBA.l3 (R := R) N))], joins := [] }
theorem zBA.cons (N : Nat) : ConsOk Tryz.prog (zBA.cfg N).con := (consOk_cons (hb66) (zBY.ok N) (zBY.det N) (consOk_cons (hb39) (zBV.ok N) (zBV.det N) (consOk_cons (hb40) (zBL.ok N) (zBL.det N) (consOk_cons (hb67) (zBH.ok N) (zBH.det N) (consOk_cons (hb68) (zB2.ok N) (zB2.det N) (consOk_cons (hb69) (zBR.ok N) (zBR.det N) (consOk_cons (hb71) (zAP.ok N) (zAP.det N) (consOk_cons (hb70) (zBE.ok N) (zBE.det N) (consOk_cons (hb72) (zAU.ok N) (zAU.det N) (consOk_cons (hb73) (zAK.ok N) (zAK.det N) (consOk_cons (hb74) (zCK.ok N) (zCK.det N) consOk_nil)))))))))))
theorem zBA.h3 {R : Type} (N : Nat) (d : zBA.sk3.D) (kn : zBA.sk3.D → Option R) (kx : XD zBA.xs3 → Option R) : roundK (zBA.cfg N) N (nthLoop (fnBody Tryz.f41) 0) zBA.sk3 zBA.xs3 d kn kx = zBA.l3 N d kn kx := by kernel_rfl
theorem zBA.i3 (N : Nat) : LoopsOk Tryz.prog (zBA.cfg N) (nthLoop (fnBody Tryz.f41) 0) := loopsL (l := []) (by kernel_rfl) trivial
theorem zBA.o3 (N : Nat) : LoopOk Tryz.prog (nthLoop (fnBody Tryz.f41) 0) (loopCon N zBA.sk3 zBA.xs3 (fun {R} => zBA.l3 (R := R) N)) := loop_ok (g := zBA.cfg N) tys_ok (zBA.cons N) mixed (zBA.i3 N) (fun d kn kx => zBA.h3 N d kn kx)
theorem zBA.ls (N : Nat) : LoopsOk Tryz.prog (zBA.cfg N) (fnBody Tryz.f41) := loopsL (l := [nthLoop (fnBody Tryz.f41) 0]) (by kernel_rfl) ⟨loopOne (L0 := loopCon N zBA.sk3 zBA.xs3 (fun {R} => zBA.l3 (R := R) N)) (id := 3) (by kernel_rfl) (by kernel_rfl) (zBA.o3 N), trivial⟩
theorem zBA.q3 {R R' : Type} {N n : Nat} {d} {k} {g : R → Option R'} : bindF (loopP (zBA.l3 N) n d k) g = loopP (zBA.l3 N) n d fun e => bindF (k e) g := bindF_loopP (fun d kn kx => by simp only [zBA.l3, bindF_ifB, bindF_bindO, bindF_pure, bindF_none, bindF_onSum]) n d k
theorem zBA.b (N : Nat) (x0 : den s24) (x1 : den s27) (x2 : den .str) : body (zBA.cfg N) N Tryz.f41 [.one, .one, .one] [.v, .v, .v] [(false, .imm)] [⟨s24, .imm, x0⟩, ⟨s27, .imm, x1⟩, ⟨.str, .imm, x2⟩] (fun r i => some (r, i)) = bindO (zBA N x0 x1 x2) fun r => some ([⟨s31, .imm, r⟩], []) := by
  show _ = bindF _ _
  conv => rhs; simp only [zBA, bindF_ifB, bindF_bindO, bindF_pure, bindF_none, bindF_onSum, zBA.q3]
  kernel_rfl
theorem zBA.ok (N : Nat) : ConOk Tryz.prog 41 [.one, .one, .one] (zBA.con N) := ok3 (g := zBA.cfg N) (N := N) (res := [(false, .imm)]) tys_ok (zBA.cons N) mixed Tryz.func41 (zBA.ls N) rfl (zBA.b N)
theorem zBA.det (N : Nat) : ConDet (zBA.con N) := det3
def zB6.sk2 : Skel := ⟨dd 2 (.pv .str :: (dd 3 (.ptr 50 [] :: (.ptr 51 [] :: (dd 40 []))))), [⟨50, s31, (.pr (.pr (.own .imm) .imm) (.pr (.pr (.own (.own .imm)) .imm) .imm)), true, false⟩, ⟨51, s31, .imm, true, false⟩]⟩
def zB6.xs2 : List XS := [⟨.exit 0, [6, 7], ⟨dd 6 (.ptr 50 [] :: (.ptr 51 [] :: (dd 40 []))), [⟨50, s31, (.pr (.pr (.own .imm) .imm) (.pr (.pr (.own (.own .imm)) .imm) .imm)), true, false⟩, ⟨51, s31, .imm, true, false⟩]⟩⟩, ⟨.ret, [6], ⟨dd 6 (.ptr 50 [] :: (dd 41 [])), [⟨50, s31, .imm, true, false⟩]⟩⟩]
def zB6.con (N : Nat) : Con := { modes := [.v, .v, .v], ptrs := [false], fn := fn3 s24 .imm s27 .imm .str .imm (zB6 N) (fun r => [⟨s31, .imm, r⟩]) (fun r => []) }
def zB6.cfg (N : Nat) : Cfg := { ty := tys, keep := [], flt := [], elm := elm0, live := [(2, [2, 6, 7, 20, 21, 22])], ord := [(1, [5, 0, 2, 1, 3, 4, 6]), (3, [9, 0, 1, 2, 3, 4, 5, 6, 7, 8, 10])], con := [((39, [.one]), zBV.con N), ((40, [.one]), zBL.con N), ((41, [.one, .one, .one]), zBA.con N)], loops := [(2, loopCon N zB6.sk2 zB6.xs2 (fun {R} => zB6.l2 (R := R) N))], joins := [] }
theorem zB6.cons (N : Nat) : ConsOk Tryz.prog (zB6.cfg N).con := (consOk_cons (hb39) (zBV.ok N) (zBV.det N) (consOk_cons (hb40) (zBL.ok N) (zBL.det N) (consOk_cons (hb41) (zBA.ok N) (zBA.det N) consOk_nil)))
theorem zB6.h2 {R : Type} (N : Nat) (d : zB6.sk2.D) (kn : zB6.sk2.D → Option R) (kx : XD zB6.xs2 → Option R) : roundK (zB6.cfg N) N (nthLoop (fnBody Tryz.f19) 0) zB6.sk2 zB6.xs2 d kn kx = zB6.l2 N d kn kx := by kernel_rfl
theorem zB6.i2 (N : Nat) : LoopsOk Tryz.prog (zB6.cfg N) (nthLoop (fnBody Tryz.f19) 0) := loopsL (l := []) (by kernel_rfl) trivial
theorem zB6.o2 (N : Nat) : LoopOk Tryz.prog (nthLoop (fnBody Tryz.f19) 0) (loopCon N zB6.sk2 zB6.xs2 (fun {R} => zB6.l2 (R := R) N)) := loop_ok (g := zB6.cfg N) tys_ok (zB6.cons N) mixed (zB6.i2 N) (fun d kn kx => zB6.h2 N d kn kx)
theorem zB6.ls (N : Nat) : LoopsOk Tryz.prog (zB6.cfg N) (fnBody Tryz.f19) := loopsL (l := [nthLoop (fnBody Tryz.f19) 0]) (by kernel_rfl) ⟨loopOne (L0 := loopCon N zB6.sk2 zB6.xs2 (fun {R} => zB6.l2 (R := R) N)) (id := 2) (by kernel_rfl) (by kernel_rfl) (zB6.o2 N), trivial⟩
theorem zB6.q2 {R R' : Type} {N n : Nat} {d} {k} {g : R → Option R'} : bindF (loopP (zB6.l2 N) n d k) g = loopP (zB6.l2 N) n d fun e => bindF (k e) g := bindF_loopP (fun d kn kx => by simp only [zB6.l2, bindF_ifB, bindF_bindO, bindF_pure, bindF_none, bindF_onSum]) n d k
theorem zB6.b (N : Nat) (x0 : den s24) (x1 : den s27) (x2 : den .str) : body (zB6.cfg N) N Tryz.f19 [.one, .one, .one] [.v, .v, .v] [(false, .imm)] [⟨s24, .imm, x0⟩, ⟨s27, .imm, x1⟩, ⟨.str, .imm, x2⟩] (fun r i => some (r, i)) = bindO (zB6 N x0 x1 x2) fun r => some ([⟨s31, .imm, r⟩], []) := by
  show _ = bindF _ _
  conv => rhs; simp only [zB6, bindF_ifB, bindF_bindO, bindF_pure, bindF_none, bindF_onSum, zB6.q2]
  kernel_rfl
theorem zB6.ok (N : Nat) : ConOk Tryz.prog 19 [.one, .one, .one] (zB6.con N) := ok3 (g := zB6.cfg N) (N := N) (res := [(false, .imm)]) tys_ok (zB6.cons N) mixed Tryz.func19 (zB6.ls N) rfl (zB6.b N)
theorem zB6.det (N : Nat) : ConDet (zB6.con N) := det3
def zCV.con (N : Nat) : Con := { modes := [.v, .v, .v], ptrs := [false], fn := fn3 s24 .imm s27 .imm .str .imm (zCV N) (fun r => [⟨s31, .imm, r⟩]) (fun r => []) }
def zCV.cfg (N : Nat) : Cfg := { ty := tys, keep := [12, 16, 23], flt := [], elm := elm0, live := [], ord := [], con := [((17, [.one]), zB9.con N), ((18, [.one]), zBF.con N), ((19, [.one, .one, .one]), zB6.con N)], loops := [], joins := [] }
theorem zCV.cons (N : Nat) : ConsOk Tryz.prog (zCV.cfg N).con := (consOk_cons (hb17) (zB9.ok N) (zB9.det N) (consOk_cons (hb18) (zBF.ok N) (zBF.det N) (consOk_cons (hb19) (zB6.ok N) (zB6.det N) consOk_nil)))
theorem zCV.ls (N : Nat) : LoopsOk Tryz.prog (zCV.cfg N) (fnBody Tryz.f5) := loopsL (l := []) (by kernel_rfl) trivial
theorem zCV.b (N : Nat) (x0 : den s24) (x1 : den s27) (x2 : den .str) : body (zCV.cfg N) N Tryz.f5 [.one, .one, .one] [.v, .v, .v] [(false, .imm)] [⟨s24, .imm, x0⟩, ⟨s27, .imm, x1⟩, ⟨.str, .imm, x2⟩] (fun r i => some (r, i)) = bindO (zCV N x0 x1 x2) fun r => some ([⟨s31, .imm, r⟩], []) := by
  show _ = bindF _ _
  conv => rhs; simp only [zCV, bindF_ifB, bindF_bindO, bindF_pure, bindF_none, bindF_onSum]
  kernel_rfl
theorem zCV.ok (N : Nat) : ConOk Tryz.prog 5 [.one, .one, .one] (zCV.con N) := ok3 (g := zCV.cfg N) (N := N) (res := [(false, .imm)]) tys_ok (zCV.cons N) mixed Tryz.func5 (zCV.ls N) rfl (zCV.b N)
theorem zCV.det (N : Nat) : ConDet (zCV.con N) := det3
def zC9.con (N : Nat) : Con := { modes := [.v], ptrs := [false], fn := fn1 .str .imm (zC9 N) (fun r => [⟨.bool, .imm, r⟩]) (fun r => []) }
def zC9.cfg (N : Nat) : Cfg := { ty := tys, keep := [], flt := [], elm := elm0, live := [], ord := [], con := [], loops := [], joins := [] }
theorem zC9.cons (N : Nat) : ConsOk Tryz.prog (zC9.cfg N).con := consOk_nil
theorem zC9.ls (N : Nat) : LoopsOk Tryz.prog (zC9.cfg N) (fnBody Tryz.f43) := loopsL (l := []) (by kernel_rfl) trivial
theorem zC9.b (N : Nat) (x0 : den .str) : body (zC9.cfg N) N Tryz.f43 [.one] [.v] [(false, .imm)] [⟨.str, .imm, x0⟩] (fun r i => some (r, i)) = bindO (zC9 N x0) fun r => some ([⟨.bool, .imm, r⟩], []) := by
  show _ = bindF _ _
  conv => rhs; simp only [zC9, bindF_ifB, bindF_bindO, bindF_pure, bindF_none, bindF_onSum]
  kernel_rfl
theorem zC9.ok (N : Nat) : ConOk Tryz.prog 43 [.one] (zC9.con N) := ok1 (g := zC9.cfg N) (N := N) (res := [(false, .imm)]) tys_ok (zC9.cons N) mixed Tryz.func43 (zC9.ls N) rfl (zC9.b N)
theorem zC9.det (N : Nat) : ConDet (zC9.con N) := det1
def zA2.sk2 : Skel := ⟨.pv (.sl 9 .str) :: (.fn 43 [] :: (dd 5 (.pv (.int .i64) :: (.pv (.int .i64) :: (dd 10 []))))), []⟩
def zA2.xs2 : List XS := [⟨.exit 0, [], ⟨dd 19 [], []⟩⟩, ⟨.ret, [4], ⟨dd 4 (.pv (.int .i64) :: (dd 14 [])), []⟩⟩]
def zA2.con (N : Nat) : Con := { modes := [.v], ptrs := [false], fn := fn1 (.sl 9 .str) .imm (zA2 N) (fun r => [⟨(.int .i64), .imm, r⟩]) (fun r => []) }
def zA2.cfg (N : Nat) : Cfg := { ty := tys, keep := [16], flt := [], elm := elm0, live := [(2, [0, 1, 7, 8])], ord := [], con := [((43, [.one]), zC9.con N)], loops := [(2, loopCon N zA2.sk2 zA2.xs2 (fun {R} => zA2.l2 (R := R) N))], joins := [] }
theorem zA2.cons (N : Nat) : ConsOk Tryz.prog (zA2.cfg N).con := (consOk_cons (hb43) (zC9.ok N) (zC9.det N) consOk_nil)
theorem zA2.h2 {R : Type} (N : Nat) (d : zA2.sk2.D) (kn : zA2.sk2.D → Option R) (kx : XD zA2.xs2 → Option R) : roundK (zA2.cfg N) N (nthLoop (fnBody Tryz.f75) 0) zA2.sk2 zA2.xs2 d kn kx = zA2.l2 N d kn kx := by kernel_rfl
theorem zA2.i2 (N : Nat) : LoopsOk Tryz.prog (zA2.cfg N) (nthLoop (fnBody Tryz.f75) 0) := loopsL (l := []) (by kernel_rfl) trivial
theorem zA2.o2 (N : Nat) : LoopOk Tryz.prog (nthLoop (fnBody Tryz.f75) 0) (loopCon N zA2.sk2 zA2.xs2 (fun {R} => zA2.l2 (R := R) N)) := loop_ok (g := zA2.cfg N) tys_ok (zA2.cons N) mixed (zA2.i2 N) (fun d kn kx => zA2.h2 N d kn kx)
theorem zA2.ls (N : Nat) : LoopsOk Tryz.prog (zA2.cfg N) (fnBody Tryz.f75) := loopsL (l := [nthLoop (fnBody Tryz.f75) 0]) (by kernel_rfl) ⟨loopOne (L0 := loopCon N zA2.sk2 zA2.xs2 (fun {R} => zA2.l2 (R := R) N)) (id := 2) (by kernel_rfl) (by kernel_rfl) (zA2.o2 N), trivial⟩
theorem zA2.q2 {R R' : Type} {N n : Nat} {d} {k} {g : R → Option R'} : bindF (loopP (zA2.l2 N) n d k) g = loopP (zA2.l2 N) n d fun e => bindF (k e) g := bindF_loopP (fun d kn kx => by simp only [zA2.l2, bindF_ifB, bindF_bindO, bindF_pure, bindF_none, bindF_onSum]) n d k
theorem zA2.b (N : Nat) (x0 : den (.sl 9 .str)) : body (zA2.cfg N) N Tryz.f75 [.one, .fn 43 0] [.v] [(false, .imm)] [⟨(.sl 9 .str), .imm, x0⟩] (fun r i => some (r, i)) = bindO (zA2 N x0) fun r => some ([⟨(.int .i64), .imm, r⟩], []) := by
  show _ = bindF _ _
  conv => rhs; simp only [zA2, bindF_ifB, bindF_bindO, bindF_pure, bindF_none, bindF_onSum, zA2.q2]
  kernel_rfl
theorem zA2.ok (N : Nat) : ConOk Tryz.prog 75 [.one, .fn 43 0] (zA2.con N) := ok1 (g := zA2.cfg N) (N := N) (res := [(false, .imm)]) tys_ok (zA2.cons N) mixed Tryz.func75 (zA2.ls N) rfl (zA2.b N)
theorem zA2.det (N : Nat) : ConDet (zA2.con N) := det1
end Go.AE.F
end
