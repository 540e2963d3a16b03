/- The printed functions are what the program comes to: contracts. -/
import Derived.Test.YtcgbobehdjgjpaaGreatLViBackL7
noncomputable section
namespace Go.AE.F
open Go.AE Go.Proofs
set_option maxRecDepth 100000
def zAP.sk3 : Skel := ⟨.pv s23 :: (dd 2 (.ov 50 [] :: (.pv (.int .i64) :: (dd 33 [])))), [⟨50, s23, (.own .imm), false, false⟩]⟩
def zAP.xs3 : List XS := [⟨.exit 0, [3], ⟨dd 3 (.ov 50 [] :: (dd 34 [])), [⟨50, s23, (.own .imm), false, false⟩]⟩⟩]
def zAP.con (N : Nat) : Con := { modes := [.v], ptrs := [false], fn := fn1 s23 .imm (zAP N) (fun r => [⟨s23, (.own .imm), r⟩]) (fun r => []) }
def zAP.cfg (N : Nat) : Cfg := { ty := tys, keep := [], flt := [], elm := elm0, live := [(3, [0, 3, 4, 20, 21, 28, 29])], ord := [], con := [], loops := [(3, loopCon N zAP.sk3 zAP.xs3 (fun {R} => zAP.l3 (R := R) N))], joins := [(4, [⟨.normal, [0, 3, 4, 20, 21, 28, 29], ⟨.pv s23 :: (dd 2 (.ov 50 [] :: (.pv (.int .i64) :: (dd 33 [])))), [⟨50, s23, (.own .imm), false, false⟩]⟩⟩])] }
theorem zAP.cons (N : Nat) : ConsOk Tryz.prog (zAP.cfg N).con := consOk_nil
theorem zAP.h3 {R : Type} (N : Nat) (d : zAP.sk3.D) (kn : zAP.sk3.D → Option R) (kx : XD zAP.xs3 → Option R) : roundK (zAP.cfg N) N (nthLoop (fnBody Tryz.f58) 0) zAP.sk3 zAP.xs3 d kn kx = zAP.l3 N d kn kx := by kernel_rfl
theorem zAP.i3 (N : Nat) : LoopsOk Tryz.prog (zAP.cfg N) (nthLoop (fnBody Tryz.f58) 0) := loopsL (l := []) (by kernel_rfl) trivial
theorem zAP.o3 (N : Nat) : LoopOk Tryz.prog (nthLoop (fnBody Tryz.f58) 0) (loopCon N zAP.sk3 zAP.xs3 (fun {R} => zAP.l3 (R := R) N)) := loop_ok (g := zAP.cfg N) tys_ok (zAP.cons N) mixed (zAP.i3 N) (fun d kn kx => zAP.h3 N d kn kx)
theorem zAP.ls (N : Nat) : LoopsOk Tryz.prog (zAP.cfg N) (fnBody Tryz.f58) := loopsL (l := [nthLoop (fnBody Tryz.f58) 0]) (by kernel_rfl) ⟨loopOne (L0 := loopCon N zAP.sk3 zAP.xs3 (fun {R} => zAP.l3 (R := R) N)) (id := 3) (by kernel_rfl) (by kernel_rfl) (zAP.o3 N), trivial⟩
theorem zAP.q3 {R R' : Type} {N n : Nat} {d} {k} {g : R → Option R'} : bindF (loopP (zAP.l3 N) n d k) g = loopP (zAP.l3 N) n d fun e => bindF (k e) g := bindF_loopP (fun d kn kx => by simp only [zAP.l3, bindF_ifB, bindF_bindO, bindF_pure, bindF_none, bindF_onSum]) n d k
theorem zAP.b (N : Nat) (x0 : den s23) : body (zAP.cfg N) N Tryz.f58 [.one] [.v] [(false, (.own .imm))] [⟨s23, .imm, x0⟩] (fun r i => some (r, i)) = bindO (zAP N x0) fun r => some ([⟨s23, (.own .imm), r⟩], []) := by
  show _ = bindF _ _
  conv => rhs; simp only [zAP, bindF_ifB, bindF_bindO, bindF_pure, bindF_none, bindF_onSum, zAP.q3]
  kernel_rfl
theorem zAP.ok (N : Nat) : ConOk Tryz.prog 58 [.one] (zAP.con N) := ok1 (g := zAP.cfg N) (N := N) (res := [(false, (.own .imm))]) tys_ok (zAP.cons N) mixed Tryz.func58 (zAP.ls N) rfl (zAP.b N)
theorem zAP.det (N : Nat) : ConDet (zAP.con N) := det1
def zC7.con (N : Nat) : Con := { modes := [.v, .v, .v], ptrs := [false], fn := fn3 s24 .imm (.int .i64) .imm (.int .i64) .imm (zC7 N) (fun r => [⟨(.int .i64), .imm, r⟩]) (fun r => []) }
def zC7.cfg (N : Nat) : Cfg := { ty := tys, keep := [9, 15], flt := [], elm := elm0, live := [], ord := [], con := [((77, [.one]), zAY.con N), ((78, [.one, .one, .one, .one]), zB2.con N)], loops := [], joins := [] }
theorem zC7.cons (N : Nat) : ConsOk Tryz.prog (zC7.cfg N).con := (consOk_cons (hb77) (zAY.ok N) (zAY.det N) (consOk_cons (hb78) (zB2.ok N) (zB2.det N) consOk_nil))
theorem zC7.ls (N : Nat) : LoopsOk Tryz.prog (zC7.cfg N) (fnBody Tryz.f61) := loopsL (l := []) (by kernel_rfl) trivial
theorem zC7.b (N : Nat) (x0 : den s24) (x1 : den (.int .i64)) (x2 : den (.int .i64)) : body (zC7.cfg N) N Tryz.f61 [.one, .one, .one] [.v, .v, .v] [(false, .imm)] [⟨s24, .imm, x0⟩, ⟨(.int .i64), .imm, x1⟩, ⟨(.int .i64), .imm, x2⟩] (fun r i => some (r, i)) = bindO (zC7 N x0 x1 x2) fun r => some ([⟨(.int .i64), .imm, r⟩], []) := by
  show _ = bindF _ _
  conv => rhs; simp only [zC7, bindF_ifB, bindF_bindO, bindF_pure, bindF_none, bindF_onSum]
  kernel_rfl
theorem zC7.ok (N : Nat) : ConOk Tryz.prog 61 [.one, .one, .one] (zC7.con N) := ok3 (g := zC7.cfg N) (N := N) (res := [(false, .imm)]) tys_ok (zC7.cons N) mixed Tryz.func61 (zC7.ls N) rfl (zC7.b N)
theorem zC7.det (N : Nat) : ConDet (zC7.con N) := det3
def zB8.sk3 : Skel := ⟨dd 2 (.pv .str :: (.ptr 50 [] :: (.ptr 51 [] :: (dd 1 (.ptr 52 [] :: (.pv (.int .i64) :: (.pv (.int .i64) :: (dd 179 [])))))))), [⟨50, s24, .imm, true, false⟩, ⟨51, s27, .imm, true, false⟩, ⟨52, s35, (.pr (.pr (.own .imm) .imm) (.pr (.pr (.own (.own .imm)) .imm) .imm)), true, false⟩]⟩
def zB8.xs3 : List XS := [⟨.exit 0, [2, 3, 4, 6, 7, 8], ⟨dd 2 (.pv .str :: (.ptr 50 [] :: (.ptr 51 [] :: (dd 1 (.ptr 52 [] :: (.pv (.int .i64) :: (.pv (.int .i64) :: (dd 179 [])))))))), [⟨50, s24, .imm, true, false⟩, ⟨51, s27, .imm, true, false⟩, ⟨52, s35, (.pr (.pr (.own .imm) .imm) (.pr (.pr (.own (.own .imm)) .imm) .imm)), true, false⟩]⟩⟩]
def zB8.con (N : Nat) : Con := { modes := [.v, .v, .v], ptrs := [false], fn := fn3 s24 .imm s27 .imm .str .imm (zB8 N) (fun r => [⟨s35, .imm, r⟩]) (fun r => []) }
def zB8.cfg (N : Nat) : Cfg := { ty := tys, keep := [63, 70, 72, 107, 115, 124, 132, 143, 144, 163, 170, 177, 82], flt := [], elm := elm0, live := [(3, [2, 3, 4, 6, 7, 8, 21, 22, 25, 26, 27, 28, 31, 32, 33, 34, 37, 38, 39, 40, 41, 42, 43, 44, 45])], ord := [(26, [0, 1, 2, 3, 4, 5, 6, 7, 8]), (35, [0, 1, 2, 3, 4, 5, 6, 7, 8, 9, 10, 11, 12, 13])], con := [((51, [.one, .one]), zBR.con N), ((52, [.one]), zBW.con N), ((53, [.one]), zBN.con N), ((54, [.one, .one, .one, .one, .one]), zBC.con N), ((55, [.one, .one, .one, .one]), zB3.con N), ((56, [.one, .one]), zBL.con N), ((58, [.one]), zAP.con N), ((57, [.one, .one, .one, .one]), zBA.con N), ((59, [.one, .one]), zAV.con N), ((60, [.one, .one]), zAK.con N), ((61, [.one, .one, .one]), zC7.con N)], loops := [(3, loopCon N zB8.sk3 zB8.xs3 (fun {R} => zB8.l3 (R := R) N))], joins := [] }
theorem zB8.cons (N : Nat) : ConsOk Tryz.prog (zB8.cfg N).con := (consOk_cons (hb51) (zBR.ok N) (zBR.det N) (consOk_cons (hb52) (zBW.ok N) (zBW.det N) (consOk_cons (hb53) (zBN.ok N) (zBN.det N) (consOk_cons (hb54) (zBC.ok N) (zBC.det N) (consOk_cons (hb55) (zB3.ok N) (zB3.det N) (consOk_cons (hb56) (zBL.ok N) (zBL.det N) (consOk_cons (hb58) (zAP.ok N) (zAP.det N) (consOk_cons (hb57) (zBA.ok N) (zBA.det N) (consOk_cons (hb59) (zAV.ok N) (zAV.det N) (consOk_cons (hb60) (zAK.ok N) (zAK.det N) (consOk_cons (hb61) (zC7.ok N) (zC7.det N) consOk_nil)))))))))))
theorem zB8.h3 {R : Type} (N : Nat) (d : zB8.sk3.D) (kn : zB8.sk3.D → Option R) (kx : XD zB8.xs3 → Option R) : roundK (zB8.cfg N) N (nthLoop (fnBody Tryz.f28) 0) zB8.sk3 zB8.xs3 d kn kx = zB8.l3 N d kn kx := by kernel_rfl
theorem zB8.i3 (N : Nat) : LoopsOk Tryz.prog (zB8.cfg N) (nthLoop (fnBody Tryz.f28) 0) := loopsL (l := []) (by kernel_rfl) trivial
theorem zB8.o3 (N : Nat) : LoopOk Tryz.prog (nthLoop (fnBody Tryz.f28) 0) (loopCon N zB8.sk3 zB8.xs3 (fun {R} => zB8.l3 (R := R) N)) := loop_ok (g := zB8.cfg N) tys_ok (zB8.cons N) mixed (zB8.i3 N) (fun d kn kx => zB8.h3 N d kn kx)
theorem zB8.ls (N : Nat) : LoopsOk Tryz.prog (zB8.cfg N) (fnBody Tryz.f28) := loopsL (l := [nthLoop (fnBody Tryz.f28) 0]) (by kernel_rfl) ⟨loopOne (L0 := loopCon N zB8.sk3 zB8.xs3 (fun {R} => zB8.l3 (R := R) N)) (id := 3) (by kernel_rfl) (by kernel_rfl) (zB8.o3 N), trivial⟩
theorem zB8.q3 {R R' : Type} {N n : Nat} {d} {k} {g : R → Option R'} : bindF (loopP (zB8.l3 N) n d k) g = loopP (zB8.l3 N) n d fun e => bindF (k e) g := bindF_loopP (fun d kn kx => by simp only [zB8.l3, bindF_ifB, bindF_bindO, bindF_pure, bindF_none, bindF_onSum]) n d k
theorem zB8.b (N : Nat) (x0 : den s24) (x1 : den s27) (x2 : den .str) : body (zB8.cfg N) N Tryz.f28 [.one, .one, .one] [.v, .v, .v] [(false, .imm)] [⟨s24, .imm, x0⟩, ⟨s27, .imm, x1⟩, ⟨.str, .imm, x2⟩] (fun r i => some (r, i)) = bindO (zB8 N x0 x1 x2) fun r => some ([⟨s35, .imm, r⟩], []) := by
  show _ = bindF _ _
  conv => rhs; simp only [zB8, bindF_ifB, bindF_bindO, bindF_pure, bindF_none, bindF_onSum, zB8.q3]
  kernel_rfl
theorem zB8.ok (N : Nat) : ConOk Tryz.prog 28 [.one, .one, .one] (zB8.con N) := ok3 (g := zB8.cfg N) (N := N) (res := [(false, .imm)]) tys_ok (zB8.cons N) mixed Tryz.func28 (zB8.ls N) rfl (zB8.b N)
theorem zB8.det (N : Nat) : ConDet (zB8.con N) := det3
def zCT.con (N : Nat) : Con := { modes := [.v, .v, .v], ptrs := [false], fn := fn3 s24 .imm s27 .imm .str .imm (zCT N) (fun r => [⟨s35, .imm, r⟩]) (fun r => []) }
def zCT.cfg (N : Nat) : Cfg := { ty := tys, keep := [12, 16, 23], flt := [], elm := elm0, live := [], ord := [], con := [((5, [.one]), zB6.con N), ((6, [.one]), zB7.con N), ((28, [.one, .one, .one]), zB8.con N)], loops := [], joins := [] }
theorem zCT.cons (N : Nat) : ConsOk Tryz.prog (zCT.cfg N).con := (consOk_cons (hb5) (zB6.ok N) (zB6.det N) (consOk_cons (hb6) (zB7.ok N) (zB7.det N) (consOk_cons (hb28) (zB8.ok N) (zB8.det N) consOk_nil)))
theorem zCT.ls (N : Nat) : LoopsOk Tryz.prog (zCT.cfg N) (fnBody Tryz.f10) := loopsL (l := []) (by kernel_rfl) trivial
theorem zCT.b (N : Nat) (x0 : den s24) (x1 : den s27) (x2 : den .str) : body (zCT.cfg N) N Tryz.f10 [.one, .one, .one] [.v, .v, .v] [(false, .imm)] [⟨s24, .imm, x0⟩, ⟨s27, .imm, x1⟩, ⟨.str, .imm, x2⟩] (fun r i => some (r, i)) = bindO (zCT N x0 x1 x2) fun r => some ([⟨s35, .imm, r⟩], []) := by
  show _ = bindF _ _
  conv => rhs; simp only [zCT, bindF_ifB, bindF_bindO, bindF_pure, bindF_none, bindF_onSum]
  kernel_rfl
theorem zCT.ok (N : Nat) : ConOk Tryz.prog 10 [.one, .one, .one] (zCT.con N) := ok3 (g := zCT.cfg N) (N := N) (res := [(false, .imm)]) tys_ok (zCT.cons N) mixed Tryz.func10 (zCT.ls N) rfl (zCT.b N)
theorem zCT.det (N : Nat) : ConDet (zCT.con N) := det3
def zCL.con (N : Nat) : Con := { modes := [.v], ptrs := [false], fn := fn1 s27 .imm (zCL N) (fun r => [⟨s23, (.own .imm), r⟩]) (fun r => []) }
def zCL.cfg (N : Nat) : Cfg := { ty := tys, keep := [4, 18], flt := [], elm := elm0, live := [], ord := [], con := [((23, [.one]), zBG.con N), ((29, [.one]), zA8.con N)], loops := [], joins := [] }
theorem zCL.cons (N : Nat) : ConsOk Tryz.prog (zCL.cfg N).con := (consOk_cons (hb23) (zBG.ok N) (zBG.det N) (consOk_cons (hb29) (zA8.ok N) (zA8.det N) consOk_nil))
theorem zCL.ls (N : Nat) : LoopsOk Tryz.prog (zCL.cfg N) (fnBody Tryz.f11) := loopsL (l := []) (by kernel_rfl) trivial
theorem zCL.b (N : Nat) (x0 : den s27) : body (zCL.cfg N) N Tryz.f11 [.one] [.v] [(false, (.own .imm))] [⟨s27, .imm, x0⟩] (fun r i => some (r, i)) = bindO (zCL N x0) fun r => some ([⟨s23, (.own .imm), r⟩], []) := by
  show _ = bindF _ _
  conv => rhs; simp only [zCL, bindF_ifB, bindF_bindO, bindF_pure, bindF_none, bindF_onSum]
  kernel_rfl
theorem zCL.ok (N : Nat) : ConOk Tryz.prog 11 [.one] (zCL.con N) := ok1 (g := zCL.cfg N) (N := N) (res := [(false, (.own .imm))]) tys_ok (zCL.cons N) mixed Tryz.func11 (zCL.ls N) rfl (zCL.b N)
theorem zCL.det (N : Nat) : ConDet (zCL.con N) := det1
def zCI.con (N : Nat) : Con := { modes := [.v, .v], ptrs := [false], fn := fn2 s22 .imm s22 .imm (zCI N) (fun r => [⟨.bool, .imm, r⟩]) (fun r => []) }
def zCI.cfg (N : Nat) : Cfg := { ty := tys, keep := [], flt := [], elm := elm0, live := [], ord := [(12, [0, 1, 2, 3, 4, 5, 6, 7, 8, 9, 14, 15, 10, 11, 12, 13, 16, 17, 18, 19]), (14, [0, 1, 2, 3, 4, 5, 6, 7, 8, 9, 10, 11, 12, 13, 16, 17, 19, 20, 21, 14, 15, 18, 22, 23, 24, 25, 26])], con := [((4, [.one]), zCC.con N), ((5, [.one]), zB6.con N), ((6, [.one]), zB7.con N), ((7, [.one, .one, .one]), zCS.con N), ((8, [.one, .one, .one]), zCQ.con N), ((9, [.one, .one]), zB5.con N), ((10, [.one, .one, .one]), zCT.con N), ((11, [.one]), zCL.con N)], loops := [], joins := [] }
theorem zCI.cons (N : Nat) : ConsOk Tryz.prog (zCI.cfg N).con := (consOk_cons (hb4) (zCC.ok N) (zCC.det N) (consOk_cons (hb5) (zB6.ok N) (zB6.det N) (consOk_cons (hb6) (zB7.ok N) (zB7.det N) (consOk_cons (hb7) (zCS.ok N) (zCS.det N) (consOk_cons (hb8) (zCQ.ok N) (zCQ.det N) (consOk_cons (hb9) (zB5.ok N) (zB5.det N) (consOk_cons (hb10) (zCT.ok N) (zCT.det N) (consOk_cons (hb11) (zCL.ok N) (zCL.det N) consOk_nil))))))))
theorem zCI.ls (N : Nat) : LoopsOk Tryz.prog (zCI.cfg N) (fnBody Tryz.f3) := loopsL (l := []) (by kernel_rfl) trivial
theorem zCI.b (N : Nat) (x0 : den s22) (x1 : den s22) : body (zCI.cfg N) N Tryz.f3 [.one, .one] [.v, .v] [(false, .imm)] [⟨s22, .imm, x0⟩, ⟨s22, .imm, x1⟩] (fun r i => some (r, i)) = bindO (zCI N x0 x1) fun r => some ([⟨.bool, .imm, r⟩], []) := by
  show _ = bindF _ _
  conv => rhs; simp only [zCI, bindF_ifB, bindF_bindO, bindF_pure, bindF_none, bindF_onSum]
  kernel_rfl
theorem zCI.ok (N : Nat) : ConOk Tryz.prog 3 [.one, .one] (zCI.con N) := ok2 (g := zCI.cfg N) (N := N) (res := [(false, .imm)]) tys_ok (zCI.cons N) mixed Tryz.func3 (zCI.ls N) rfl (zCI.b N)
theorem zCI.det (N : Nat) : ConDet (zCI.con N) := det2
end Go.AE.F
end
