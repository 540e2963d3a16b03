/- The printed functions are what the program comes to: contracts. -/
import Derived.Test.YtcgbobehdjgjpaaGreatLViBackL4
noncomputable section
namespace Go.AE.F
open Go.AE Go.Proofs
set_option maxRecDepth 100000
def zB0.con (N : Nat) : Con := { modes := [.nl, .v], ptrs := [false], fn := fn2 s23 .imm (.int .i64) .imm (zB0 N) (fun r => [⟨s23, (.own .imm), r⟩]) (fun r => []) }
def zB0.cfg (N : Nat) : Cfg := { ty := tys, keep := [], flt := [], elm := elm0, live := [], ord := [], con := [], loops := [], joins := [] }
theorem zB0.cons (N : Nat) : ConsOk Tryz.prog (zB0.cfg N).con := consOk_nil
theorem zB0.ls (N : Nat) : LoopsOk Tryz.prog (zB0.cfg N) (fnBody Tryz.f104) := loopsL (l := []) (by kernel_rfl) trivial
theorem zB0.b (N : Nat) (x0 : den s23) (x1 : den (.int .i64)) : body (zB0.cfg N) N Tryz.f104 [.one, .one] [.nl, .v] [(false, (.own .imm))] [⟨s23, .imm, x0⟩, ⟨(.int .i64), .imm, x1⟩] (fun r i => some (r, i)) = bindO (zB0 N x0 x1) fun r => some ([⟨s23, (.own .imm), r⟩], []) := by
  show _ = bindF _ _
  conv => rhs; simp only [zB0, bindF_ifB, bindF_bindO, bindF_pure, bindF_none, bindF_onSum]
  kernel_rfl
theorem zB0.ok (N : Nat) : ConOk Tryz.prog 104 [.one, .one] (zB0.con N) := ok2 (g := zB0.cfg N) (N := N) (res := [(false, (.own .imm))]) tys_ok (zB0.cons N) mixed Tryz.func104 (zB0.ls N) rfl (zB0.b N)
theorem zB0.det (N : Nat) : ConDet (zB0.con N) := det2
def zA3.sk3 : Skel := ⟨.pv s26 :: (dd 2 (.pv (.int .i64) :: (dd 5 (.pv s26 :: (.pv (.int .i64) :: (.pv (.int .i64) :: (dd 24 []))))))), []⟩
def zA3.xs3 : List XS := [⟨.exit 0, [0, 3], ⟨.pv s26 :: (dd 2 (.pv (.int .i64) :: (dd 32 []))), []⟩⟩]
def zA3.sk11 : Skel := ⟨dd 6 (.ov 50 [] :: (dd 18 (.pv s26 :: (.pv (.int .i64) :: (.pv (.int .i64) :: (dd 8 [])))))), [⟨50, s23, (.own .imm), false, false⟩]⟩
def zA3.xs11 : List XS := [⟨.exit 2, [6], ⟨dd 6 (.ov 50 [] :: (dd 29 [])), [⟨50, s23, (.own .imm), false, false⟩]⟩⟩]
def zA3.con (N : Nat) : Con := { modes := [.v], ptrs := [false], fn := fn1 s26 .imm (zA3 N) (fun r => [⟨s23, (.own .imm), r⟩]) (fun r => []) }
def zA3.cfg (N : Nat) : Cfg := { ty := tys, keep := [24], flt := [], elm := elm0, live := [(11, [6, 25, 26, 27]), (3, [0, 3, 9, 10, 11])], ord := [], con := [((104, [.one, .one]), zB0.con N)], loops := [(3, loopCon N zA3.sk3 zA3.xs3 (fun {R} => zA3.l3 (R := R) N)), (11, loopCon N zA3.sk11 zA3.xs11 (fun {R} => zA3.l11 (R := R) N))], joins := [] }
theorem zA3.cons (N : Nat) : ConsOk Tryz.prog (zA3.cfg N).con := (consOk_cons (hb104) (zB0.ok N) (zB0.det N) consOk_nil)
theorem zA3.h11 {R : Type} (N : Nat) (d : zA3.sk11.D) (kn : zA3.sk11.D → Option R) (kx : XD zA3.xs11 → Option R) : roundK (zA3.cfg N) N (nthLoop (fnBody Tryz.f91) 1) zA3.sk11 zA3.xs11 d kn kx = zA3.l11 N d kn kx := by kernel_rfl
theorem zA3.i11 (N : Nat) : LoopsOk Tryz.prog (zA3.cfg N) (nthLoop (fnBody Tryz.f91) 1) := loopsL (l := []) (by kernel_rfl) trivial
theorem zA3.o11 (N : Nat) : LoopOk Tryz.prog (nthLoop (fnBody Tryz.f91) 1) (loopCon N zA3.sk11 zA3.xs11 (fun {R} => zA3.l11 (R := R) N)) := loop_ok (g := zA3.cfg N) tys_ok (zA3.cons N) mixed (zA3.i11 N) (fun d kn kx => zA3.h11 N d kn kx)
theorem zA3.h3 {R : Type} (N : Nat) (d : zA3.sk3.D) (kn : zA3.sk3.D → Option R) (kx : XD zA3.xs3 → Option R) : roundK (zA3.cfg N) N (nthLoop (fnBody Tryz.f91) 0) zA3.sk3 zA3.xs3 d kn kx = zA3.l3 N d kn kx := by kernel_rfl
theorem zA3.i3 (N : Nat) : LoopsOk Tryz.prog (zA3.cfg N) (nthLoop (fnBody Tryz.f91) 0) := loopsL (l := []) (by kernel_rfl) trivial
theorem zA3.o3 (N : Nat) : LoopOk Tryz.prog (nthLoop (fnBody Tryz.f91) 0) (loopCon N zA3.sk3 zA3.xs3 (fun {R} => zA3.l3 (R := R) N)) := loop_ok (g := zA3.cfg N) tys_ok (zA3.cons N) mixed (zA3.i3 N) (fun d kn kx => zA3.h3 N d kn kx)
theorem zA3.ls (N : Nat) : LoopsOk Tryz.prog (zA3.cfg N) (fnBody Tryz.f91) := loopsL (l := [nthLoop (fnBody Tryz.f91) 0, nthLoop (fnBody Tryz.f91) 1]) (by kernel_rfl) ⟨loopOne (L0 := loopCon N zA3.sk3 zA3.xs3 (fun {R} => zA3.l3 (R := R) N)) (id := 3) (by kernel_rfl) (by kernel_rfl) (zA3.o3 N), ⟨loopOne (L0 := loopCon N zA3.sk11 zA3.xs11 (fun {R} => zA3.l11 (R := R) N)) (id := 11) (by kernel_rfl) (by kernel_rfl) (zA3.o11 N), trivial⟩⟩
theorem zA3.q11 {R R' : Type} {N n : Nat} {d} {k} {g : R → Option R'} : bindF (loopP (zA3.l11 N) n d k) g = loopP (zA3.l11 N) n d fun e => bindF (k e) g := bindF_loopP (fun d kn kx => by simp only [zA3.l11, bindF_ifB, bindF_bindO, bindF_pure, bindF_none, bindF_onSum]) n d k
theorem zA3.q3 {R R' : Type} {N n : Nat} {d} {k} {g : R → Option R'} : bindF (loopP (zA3.l3 N) n d k) g = loopP (zA3.l3 N) n d fun e => bindF (k e) g := bindF_loopP (fun d kn kx => by simp only [zA3.l3, bindF_ifB, bindF_bindO, bindF_pure, bindF_none, bindF_onSum]) n d k
theorem zA3.b (N : Nat) (x0 : den s26) : body (zA3.cfg N) N Tryz.f91 [.one] [.v] [(false, (.own .imm))] [⟨s26, .imm, x0⟩] (fun r i => some (r, i)) = bindO (zA3 N x0) fun r => some ([⟨s23, (.own .imm), r⟩], []) := by
  show _ = bindF _ _
  conv => rhs; simp only [zA3, bindF_ifB, bindF_bindO, bindF_pure, bindF_none, bindF_onSum, zA3.q3, zA3.q11]
  kernel_rfl
theorem zA3.ok (N : Nat) : ConOk Tryz.prog 91 [.one] (zA3.con N) := ok1 (g := zA3.cfg N) (N := N) (res := [(false, (.own .imm))]) tys_ok (zA3.cons N) mixed Tryz.func91 (zA3.ls N) rfl (zA3.b N)
theorem zA3.det (N : Nat) : ConDet (zA3.con N) := det1
def zBS.con (N : Nat) : Con := { modes := [.v, .rd, .rd, .rd], ptrs := [false], fn := fn4 (.int .i64) .imm (.int .i64) .imm (.int .i64) .imm (.int .i64) .imm (zBS N) (fun r => [⟨(.int .i64), .imm, r⟩]) (fun r => []) }
def zBS.cfg (N : Nat) : Cfg := { ty := tys, keep := [], flt := [], elm := elm0, live := [], ord := [], con := [], loops := [], joins := [] }
theorem zBS.cons (N : Nat) : ConsOk Tryz.prog (zBS.cfg N).con := consOk_nil
theorem zBS.ls (N : Nat) : LoopsOk Tryz.prog (zBS.cfg N) (fnBody Tryz.f90) := loopsL (l := []) (by kernel_rfl) trivial
theorem zBS.b (N : Nat) (x0 : den (.int .i64)) (x1 : den (.int .i64)) (x2 : den (.int .i64)) (x3 : den (.int .i64)) : body (zBS.cfg N) N Tryz.f90 [.one] [.v, .rd, .rd, .rd] [(false, .imm)] [⟨(.int .i64), .imm, x0⟩, ⟨(.int .i64), .imm, x1⟩, ⟨(.int .i64), .imm, x2⟩, ⟨(.int .i64), .imm, x3⟩] (fun r i => some (r, i)) = bindO (zBS N x0 x1 x2 x3) fun r => some ([⟨(.int .i64), .imm, r⟩], []) := by
  show _ = bindF _ _
  conv => rhs; simp only [zBS, bindF_ifB, bindF_bindO, bindF_pure, bindF_none, bindF_onSum]
  kernel_rfl
theorem zBS.ok (N : Nat) : ConOk Tryz.prog 90 [.one] (zBS.con N) := ok4 (g := zBS.cfg N) (N := N) (res := [(false, .imm)]) tys_ok (zBS.cons N) mixed Tryz.func90 (zBS.ls N) rfl (zBS.b N)
theorem zBS.det (N : Nat) : ConDet (zBS.con N) := det4
def zC0.con (N : Nat) : Con := { modes := [.v, .v, .v, .v], ptrs := [false], fn := fn4 s24 .imm (.int .i64) .imm (.int .i64) .imm s23 .imm (zC0 N) (fun r => [⟨s83, (.pr (.pr (.own .imm) .imm) (.pr (.own .imm) .imm)), r⟩]) (fun r => []) }
def zC0.cfg (N : Nat) : Cfg := { ty := tys, keep := [23, 28, 35, 51, 55, 59, 72, 81], flt := [], elm := elm0, live := [], ord := [(1, [0, 1, 2, 3, 4, 5, 6, 7, 8, 9, 10, 11, 12, 13]), (3, [6, 0, 2, 3, 4, 1, 5, 7]), (4, [0, 1, 3, 2, 4, 5]), (7, [20, 0, 1, 2, 3, 4, 5, 6, 7, 8, 11, 12, 13, 15, 16, 17, 9, 10, 14, 18, 19, 21]), (9, [0, 1, 2, 3, 4, 5]), (10, [0, 1, 2, 3, 4, 5, 6, 7, 8])], con := [((48, [.one]), zAN.con N), ((91, [.one]), zA3.con N), ((90, [.one]), zBS.con N), ((29, [.one]), zA8.con N)], loops := [], joins := [] }
theorem zC0.cons (N : Nat) : ConsOk Tryz.prog (zC0.cfg N).con := (consOk_cons (hb48) (zAN.ok N) (zAN.det N) (consOk_cons (hb91) (zA3.ok N) (zA3.det N) (consOk_cons (hb90) (zBS.ok N) (zBS.det N) (consOk_cons (hb29) (zA8.ok N) (zA8.det N) consOk_nil))))
theorem zC0.ls (N : Nat) : LoopsOk Tryz.prog (zC0.cfg N) (fnBody Tryz.f73) := loopsL (l := []) (by kernel_rfl) trivial
theorem zC0.b (N : Nat) (x0 : den s24) (x1 : den (.int .i64)) (x2 : den (.int .i64)) (x3 : den s23) : body (zC0.cfg N) N Tryz.f73 [.one, .one, .one, .one] [.v, .v, .v, .v] [(false, (.pr (.pr (.own .imm) .imm) (.pr (.own .imm) .imm)))] [⟨s24, .imm, x0⟩, ⟨(.int .i64), .imm, x1⟩, ⟨(.int .i64), .imm, x2⟩, ⟨s23, .imm, x3⟩] (fun r i => some (r, i)) = bindO (zC0 N x0 x1 x2 x3) fun r => some ([⟨s83, (.pr (.pr (.own .imm) .imm) (.pr (.own .imm) .imm)), r⟩], []) := by
  show _ = bindF _ _
  conv => rhs; simp only [zC0, bindF_ifB, bindF_bindO, bindF_pure, bindF_none, bindF_onSum]
  kernel_rfl
theorem zC0.ok (N : Nat) : ConOk Tryz.prog 73 [.one, .one, .one, .one] (zC0.con N) := ok4 (g := zC0.cfg N) (N := N) (res := [(false, (.pr (.pr (.own .imm) .imm) (.pr (.own .imm) .imm)))]) tys_ok (zC0.cons N) mixed Tryz.func73 (zC0.ls N) rfl (zC0.b N)
theorem zC0.det (N : Nat) : ConDet (zC0.con N) := det4
def zBY.con (N : Nat) : Con := { modes := [.io, .v, .v, .v], ptrs := [], fn := fn4 s35 (.pr (.pr (.own .imm) .imm) (.pr (.pr (.own (.own .imm)) .imm) .imm)) (.int .i64) .imm (.int .i64) .imm .bool .imm (zBY N) (fun r => []) (fun r => [⟨s35, (.pr (.pr (.own .imm) .imm) (.pr (.pr (.own (.own .imm)) .imm) .imm)), r⟩]) }
def zBY.cfg (N : Nat) : Cfg := { ty := tys, keep := [24, 36], flt := [], elm := elm0, live := [], ord := [(1, [0, 1, 2, 3, 4, 5, 6, 7, 8, 9, 10, 11, 12, 13, 14, 15, 16])], con := [((72, [.one, .one]), zCR.con N), ((73, [.one, .one, .one, .one]), zC0.con N)], loops := [], joins := [] }
theorem zBY.cons (N : Nat) : ConsOk Tryz.prog (zBY.cfg N).con := (consOk_cons (hb72) (zCR.ok N) (zCR.det N) (consOk_cons (hb73) (zC0.ok N) (zC0.det N) consOk_nil))
theorem zBY.ls (N : Nat) : LoopsOk Tryz.prog (zBY.cfg N) (fnBody Tryz.f47) := loopsL (l := []) (by kernel_rfl) trivial
theorem zBY.b (N : Nat) (x0 : den s35) (x1 : den (.int .i64)) (x2 : den (.int .i64)) (x3 : den .bool) : body (zBY.cfg N) N Tryz.f47 [.one, .one, .one, .one] [.io, .v, .v, .v] [] [⟨s35, (.pr (.pr (.own .imm) .imm) (.pr (.pr (.own (.own .imm)) .imm) .imm)), x0⟩, ⟨(.int .i64), .imm, x1⟩, ⟨(.int .i64), .imm, x2⟩, ⟨.bool, .imm, x3⟩] (fun r i => some (r, i)) = bindO (zBY N x0 x1 x2 x3) fun r => some ([], [⟨s35, (.pr (.pr (.own .imm) .imm) (.pr (.pr (.own (.own .imm)) .imm) .imm)), r⟩]) := by
  show _ = bindF _ _
  conv => rhs; simp only [zBY, bindF_ifB, bindF_bindO, bindF_pure, bindF_none, bindF_onSum]
  kernel_rfl
theorem zBY.ok (N : Nat) : ConOk Tryz.prog 47 [.one, .one, .one, .one] (zBY.con N) := ok4 (g := zBY.cfg N) (N := N) (res := []) tys_ok (zBY.cons N) mixed Tryz.func47 (zBY.ls N) rfl (zBY.b N)
theorem zBY.det (N : Nat) : ConDet (zBY.con N) := det4
def zCB.con (N : Nat) : Con := { modes := [.v, .v], ptrs := [false], fn := fn2 s27 .imm s24 .imm (zCB N) (fun r => [⟨(.int .i64), .imm, r⟩]) (fun r => []) }
def zCB.cfg (N : Nat) : Cfg := { ty := tys, keep := [7, 11], flt := [], elm := elm0, live := [], ord := [], con := [((23, [.one]), zBG.con N), ((22, [.one]), zBU.con N)], loops := [], joins := [] }
theorem zCB.cons (N : Nat) : ConsOk Tryz.prog (zCB.cfg N).con := (consOk_cons (hb23) (zBG.ok N) (zBG.det N) (consOk_cons (hb22) (zBU.ok N) (zBU.det N) consOk_nil))
theorem zCB.ls (N : Nat) : LoopsOk Tryz.prog (zCB.cfg N) (fnBody Tryz.f74) := loopsL (l := []) (by kernel_rfl) trivial
theorem zCB.b (N : Nat) (x0 : den s27) (x1 : den s24) : body (zCB.cfg N) N Tryz.f74 [.one, .one] [.v, .v] [(false, .imm)] [⟨s27, .imm, x0⟩, ⟨s24, .imm, x1⟩] (fun r i => some (r, i)) = bindO (zCB N x0 x1) fun r => some ([⟨(.int .i64), .imm, r⟩], []) := by
  show _ = bindF _ _
  conv => rhs; simp only [zCB, bindF_ifB, bindF_bindO, bindF_pure, bindF_none, bindF_onSum]
  kernel_rfl
theorem zCB.ok (N : Nat) : ConOk Tryz.prog 74 [.one, .one] (zCB.con N) := ok2 (g := zCB.cfg N) (N := N) (res := [(false, .imm)]) tys_ok (zCB.cons N) mixed Tryz.func74 (zCB.ls N) rfl (zCB.b N)
theorem zCB.det (N : Nat) : ConDet (zCB.con N) := det2
def zC8.con (N : Nat) : Con := { modes := [.v, .v], ptrs := [false], fn := fn2 s27 .imm s24 .imm (zC8 N) (fun r => [⟨s77, (.pr (.pr (.own .imm) .imm) .imm), r⟩]) (fun r => []) }
def zC8.cfg (N : Nat) : Cfg := { ty := tys, keep := [10, 27, 41], flt := [], elm := elm0, live := [], ord := [(8, [0, 1, 2, 3, 4, 5, 6, 7, 8, 9, 10])], con := [((74, [.one, .one]), zCB.con N), ((73, [.one, .one, .one, .one]), zC0.con N), ((48, [.one]), zAN.con N)], loops := [], joins := [] }
theorem zC8.cons (N : Nat) : ConsOk Tryz.prog (zC8.cfg N).con := (consOk_cons (hb74) (zCB.ok N) (zCB.det N) (consOk_cons (hb73) (zC0.ok N) (zC0.det N) (consOk_cons (hb48) (zAN.ok N) (zAN.det N) consOk_nil)))
theorem zC8.ls (N : Nat) : LoopsOk Tryz.prog (zC8.cfg N) (fnBody Tryz.f49) := loopsL (l := []) (by kernel_rfl) trivial
theorem zC8.b (N : Nat) (x0 : den s27) (x1 : den s24) : body (zC8.cfg N) N Tryz.f49 [.one, .one] [.v, .v] [(false, (.pr (.pr (.own .imm) .imm) .imm))] [⟨s27, .imm, x0⟩, ⟨s24, .imm, x1⟩] (fun r i => some (r, i)) = bindO (zC8 N x0 x1) fun r => some ([⟨s77, (.pr (.pr (.own .imm) .imm) .imm), r⟩], []) := by
  show _ = bindF _ _
  conv => rhs; simp only [zC8, bindF_ifB, bindF_bindO, bindF_pure, bindF_none, bindF_onSum]
  kernel_rfl
theorem zC8.ok (N : Nat) : ConOk Tryz.prog 49 [.one, .one] (zC8.con N) := ok2 (g := zC8.cfg N) (N := N) (res := [(false, (.pr (.pr (.own .imm) .imm) .imm))]) tys_ok (zC8.cons N) mixed Tryz.func49 (zC8.ls N) rfl (zC8.b N)
theorem zC8.det (N : Nat) : ConDet (zC8.con N) := det2
def zCE.con (N : Nat) : Con := { modes := [.v], ptrs := [false], fn := fn1 (.int .i64) .imm (zCE N) (fun r => [⟨(.int .i64), .imm, r⟩]) (fun r => []) }
def zCE.cfg (N : Nat) : Cfg := { ty := tys, keep := [4, 7], flt := [], elm := elm0, live := [], ord := [], con := [((38, [.one, .one, .one]), zBH.con N)], loops := [], joins := [] }
theorem zCE.cons (N : Nat) : ConsOk Tryz.prog (zCE.cfg N).con := (consOk_cons (hb38) (zBH.ok N) (zBH.det N) consOk_nil)
theorem zCE.ls (N : Nat) : LoopsOk Tryz.prog (zCE.cfg N) (fnBody Tryz.f50) := loopsL (l := []) (by kernel_rfl) trivial
theorem zCE.b (N : Nat) (x0 : den (.int .i64)) : body (zCE.cfg N) N Tryz.f50 [.one] [.v] [(false, .imm)] [⟨(.int .i64), .imm, x0⟩] (fun r i => some (r, i)) = bindO (zCE N x0) fun r => some ([⟨(.int .i64), .imm, r⟩], []) := by
  show _ = bindF _ _
  conv => rhs; simp only [zCE, bindF_ifB, bindF_bindO, bindF_pure, bindF_none, bindF_onSum]
  kernel_rfl
theorem zCE.ok (N : Nat) : ConOk Tryz.prog 50 [.one] (zCE.con N) := ok1 (g := zCE.cfg N) (N := N) (res := [(false, .imm)]) tys_ok (zCE.cons N) mixed Tryz.func50 (zCE.ls N) rfl (zCE.b N)
theorem zCE.det (N : Nat) : ConDet (zCE.con N) := det1
def zAB.sk26 : Skel := ⟨.ptr 0 [] :: (dd 166 (.pv (.int .i64) :: (.pv (.int .i64) :: (dd 73 [])))), [⟨0, s35, (.pr (.pr (.own .imm) .imm) (.pr (.pr (.own (.own .imm)) .imm) .imm)), true, false⟩]⟩
def zAB.xs26 : List XS := [⟨.exit 3, [], ⟨dd 242 [], [⟨0, s35, (.pr (.pr (.own .imm) .imm) (.pr (.pr (.own (.own .imm)) .imm) .imm)), true, false⟩]⟩⟩, ⟨.ret, [4], ⟨dd 4 (.pv (.int .i64) :: (dd 237 [])), [⟨0, s35, (.pr (.pr (.own .imm) .imm) (.pr (.pr (.own (.own .imm)) .imm) .imm)), true, false⟩]⟩⟩]
def zAB.sk36 : Skel := ⟨.ptr 0 [] :: (dd 9 (.pv (.int .i64) :: (.pv (.int .i64) :: (dd 230 [])))), [⟨0, s35, (.pr (.pr (.own .imm) .imm) (.pr (.pr (.own (.own .imm)) .imm) .imm)), true, false⟩]⟩
def zAB.xs36 : List XS := [⟨.exit 5, [0, 10], ⟨.ptr 0 [] :: (dd 9 (.pv (.int .i64) :: (dd 231 []))), [⟨0, s35, (.pr (.pr (.own .imm) .imm) (.pr (.pr (.own (.own .imm)) .imm) .imm)), true, false⟩]⟩⟩]
def zAB.con (N : Nat) : Con := { modes := [.io, .v], ptrs := [false], fn := fn2 s35 (.pr (.pr (.own .imm) .imm) (.pr (.pr (.own (.own .imm)) .imm) .imm)) s52 .imm (zAB N) (fun r => [⟨(.int .i64), .imm, r.1⟩]) (fun r => [⟨s35, (.pr (.pr (.own .imm) .imm) (.pr (.pr (.own (.own .imm)) .imm) .imm)), r.2⟩]) }
def zAB.cfg (N : Nat) : Cfg := { ty := tys, keep := [20, 73, 107, 118, 123, 94, 97, 134, 161, 178, 203, 211, 235, 36, 48, 59], flt := [], elm := elm0, live := [(26, [0, 167, 168]), (36, [0, 10, 11])], ord := [(12, [0, 1, 2, 3, 4, 5, 6, 7, 8, 9, 10, 11]), (17, [0, 1, 2, 3, 4, 5, 6]), (19, [0, 1, 2, 3, 5, 6, 7, 8, 4, 9, 10, 11]), (15, [0, 1, 2, 3, 4, 7, 8, 5, 6, 9, 10]), (27, [9, 0, 1, 2, 3, 4, 5, 6, 7, 8, 10]), (33, [0, 1, 2, 3, 4, 5, 6, 7, 8, 9, 10, 11]), (38, [0, 1, 2, 3, 4, 5, 6, 7, 8, 9, 10, 11, 12, 13, 14, 15, 16])], con := [((42, [.one]), zCF.con N), ((44, [.one, .one, .one, .one]), zAM.con N), ((45, [.one, .one]), zAJ.con N), ((46, [.one, .one]), zAU.con N), ((47, [.one, .one, .one, .one]), zBY.con N), ((48, [.one]), zAN.con N), ((49, [.one, .one]), zC8.con N), ((29, [.one]), zA8.con N), ((50, [.one]), zCE.con N)], loops := [(26, loopCon N zAB.sk26 zAB.xs26 (fun {R} => zAB.l26 (R := R) N)), (36, loopCon N zAB.sk36 zAB.xs36 (fun {R} => zAB.l36 (R := R) N))], joins := [(20, [⟨.normal, [0, 3, 7, 8], ⟨.ptr 0 [] :: (dd 2 (.ptr 50 [] :: (dd 3 (.pv (.int .i64) :: (.pv (.int .i64) :: (dd 233 [])))))), [⟨0, s35, (.pr (.pr (.own .imm) .imm) (.pr (.pr (.own (.own .imm)) .imm) .imm)), true, false⟩, ⟨50, s52, .imm, true, false⟩]⟩⟩]), (40, [⟨.normal, [], ⟨dd 242 [], [⟨0, s35, (.pr (.pr (.own .imm) .imm) (.pr (.pr (.own (.own .imm)) .imm) .imm)), true, false⟩]⟩⟩, ⟨.ret, [4], ⟨dd 4 (.pv (.int .i64) :: (dd 237 [])), [⟨0, s35, (.pr (.pr (.own .imm) .imm) (.pr (.pr (.own (.own .imm)) .imm) .imm)), true, false⟩]⟩⟩])] }
theorem zAB.cons (N : Nat) : ConsOk Tryz.prog (zAB.cfg N).con := (consOk_cons (hb42) (zCF.ok N) (zCF.det N) (consOk_cons (hb44) (zAM.ok N) (zAM.det N) (consOk_cons (hb45) (zAJ.ok N) (zAJ.det N) (consOk_cons (hb46) (zAU.ok N) (zAU.det N) (consOk_cons (hb47) (zBY.ok N) (zBY.det N) (consOk_cons (hb48) (zAN.ok N) (zAN.det N) (consOk_cons (hb49) (zC8.ok N) (zC8.det N) (consOk_cons (hb29) (zA8.ok N) (zA8.det N) (consOk_cons (hb50) (zCE.ok N) (zCE.det N) consOk_nil)))))))))
theorem zAB.h36 {R : Type} (N : Nat) (d : zAB.sk36.D) (kn : zAB.sk36.D → Option R) (kx : XD zAB.xs36 → Option R) : roundK (zAB.cfg N) N (nthLoop (fnBody Tryz.f27) 1) zAB.sk36 zAB.xs36 d kn kx = zAB.l36 N d kn kx := by kernel_rfl
theorem zAB.i36 (N : Nat) : LoopsOk Tryz.prog (zAB.cfg N) (nthLoop (fnBody Tryz.f27) 1) := loopsL (l := []) (by kernel_rfl) trivial
theorem zAB.o36 (N : Nat) : LoopOk Tryz.prog (nthLoop (fnBody Tryz.f27) 1) (loopCon N zAB.sk36 zAB.xs36 (fun {R} => zAB.l36 (R := R) N)) := loop_ok (g := zAB.cfg N) tys_ok (zAB.cons N) mixed (zAB.i36 N) (fun d kn kx => zAB.h36 N d kn kx)
theorem zAB.h26 {R : Type} (N : Nat) (d : zAB.sk26.D) (kn : zAB.sk26.D → Option R) (kx : XD zAB.xs26 → Option R) : roundK (zAB.cfg N) N (nthLoop (fnBody Tryz.f27) 0) zAB.sk26 zAB.xs26 d kn kx = zAB.l26 N d kn kx := by kernel_rfl
theorem zAB.i26 (N : Nat) : LoopsOk Tryz.prog (zAB.cfg N) (nthLoop (fnBody Tryz.f27) 0) := loopsL (l := []) (by kernel_rfl) trivial
theorem zAB.o26 (N : Nat) : LoopOk Tryz.prog (nthLoop (fnBody Tryz.f27) 0) (loopCon N zAB.sk26 zAB.xs26 (fun {R} => zAB.l26 (R := R) N)) := loop_ok (g := zAB.cfg N) tys_ok (zAB.cons N) mixed (zAB.i26 N) (fun d kn kx => zAB.h26 N d kn kx)
theorem zAB.ls (N : Nat) : LoopsOk Tryz.prog (zAB.cfg N) (fnBody Tryz.f27) := loopsL (l := [nthLoop (fnBody Tryz.f27) 0, nthLoop (fnBody Tryz.f27) 1]) (by kernel_rfl) ⟨loopOne (L0 := loopCon N zAB.sk26 zAB.xs26 (fun {R} => zAB.l26 (R := R) N)) (id := 26) (by kernel_rfl) (by kernel_rfl) (zAB.o26 N), ⟨loopOne (L0 := loopCon N zAB.sk36 zAB.xs36 (fun {R} => zAB.l36 (R := R) N)) (id := 36) (by kernel_rfl) (by kernel_rfl) (zAB.o36 N), trivial⟩⟩
theorem zAB.q36 {R R' : Type} {N n : Nat} {d} {k} {g : R → Option R'} : bindF (loopP (zAB.l36 N) n d k) g = loopP (zAB.l36 N) n d fun e => bindF (k e) g := bindF_loopP (fun d kn kx => by simp only [zAB.l36, bindF_ifB, bindF_bindO, bindF_pure, bindF_none, bindF_onSum]) n d k
theorem zAB.q26 {R R' : Type} {N n : Nat} {d} {k} {g : R → Option R'} : bindF (loopP (zAB.l26 N) n d k) g = loopP (zAB.l26 N) n d fun e => bindF (k e) g := bindF_loopP (fun d kn kx => by simp only [zAB.l26, bindF_ifB, bindF_bindO, bindF_pure, bindF_none, bindF_onSum]) n d k
theorem zAB.b (N : Nat) (x0 : den s35) (x1 : den s52) : body (zAB.cfg N) N Tryz.f27 [.one, .one] [.io, .v] [(false, .imm)] [⟨s35, (.pr (.pr (.own .imm) .imm) (.pr (.pr (.own (.own .imm)) .imm) .imm)), x0⟩, ⟨s52, .imm, x1⟩] (fun r i => some (r, i)) = bindO (zAB N x0 x1) fun r => some ([⟨(.int .i64), .imm, r.1⟩], [⟨s35, (.pr (.pr (.own .imm) .imm) (.pr (.pr (.own (.own .imm)) .imm) .imm)), r.2⟩]) := by
  show _ = bindF _ _
  conv => rhs; simp only [zAB, bindF_ifB, bindF_bindO, bindF_pure, bindF_none, bindF_onSum, zAB.q26, zAB.q36]
  kernel_rfl
theorem zAB.ok (N : Nat) : ConOk Tryz.prog 27 [.one, .one] (zAB.con N) := ok2 (g := zAB.cfg N) (N := N) (res := [(false, .imm)]) tys_ok (zAB.cons N) mixed Tryz.func27 (zAB.ls N) rfl (zAB.b N)
theorem zAB.det (N : Nat) : ConDet (zAB.con N) := det2
def zCQ.con (N : Nat) : Con := { modes := [.v, .v, .v], ptrs := [false], fn := fn3 s24 .imm s27 .imm .str .imm (zCQ N) (fun r => [⟨s35, (.pr (.pr (.own .imm) .imm) (.pr (.pr (.own (.own .imm)) .imm) .imm)), r⟩]) (fun r => []) }
def zCQ.cfg (N : Nat) : Cfg := { ty := tys, keep := [13, 17, 21, 27, 31, 33, 42, 51, 56], flt := [], elm := elm0, live := [], ord := [(6, [0, 2, 4, 5, 1, 3, 6, 7, 8]), (11, [0, 1, 2, 3, 5, 6, 7, 8, 10, 11, 12, 13, 14, 15, 16, 17, 4, 9, 18, 19])], con := [((21, [.one]), zCO.con N), ((22, [.one]), zBU.con N), ((23, [.one]), zBG.con N), ((24, [.one]), zAI.con N), ((25, [.one]), zCN.con N), ((26, [.one]), zCG.con N), ((27, [.one, .one]), zAB.con N)], loops := [], joins := [] }
theorem zCQ.cons (N : Nat) : ConsOk Tryz.prog (zCQ.cfg N).con := (consOk_cons (hb21) (zCO.ok N) (zCO.det N) (consOk_cons (hb22) (zBU.ok N) (zBU.det N) (consOk_cons (hb23) (zBG.ok N) (zBG.det N) (consOk_cons (hb24) (zAI.ok N) (zAI.det N) (consOk_cons (hb25) (zCN.ok N) (zCN.det N) (consOk_cons (hb26) (zCG.ok N) (zCG.det N) (consOk_cons (hb27) (zAB.ok N) (zAB.det N) consOk_nil)))))))
theorem zCQ.ls (N : Nat) : LoopsOk Tryz.prog (zCQ.cfg N) (fnBody Tryz.f8) := loopsL (l := []) (by kernel_rfl) trivial
theorem zCQ.b (N : Nat) (x0 : den s24) (x1 : den s27) (x2 : den .str) : body (zCQ.cfg N) N Tryz.f8 [.one, .one, .one] [.v, .v, .v] [(false, (.pr (.pr (.own .imm) .imm) (.pr (.pr (.own (.own .imm)) .imm) .imm)))] [⟨s24, .imm, x0⟩, ⟨s27, .imm, x1⟩, ⟨.str, .imm, x2⟩] (fun r i => some (r, i)) = bindO (zCQ N x0 x1 x2) fun r => some ([⟨s35, (.pr (.pr (.own .imm) .imm) (.pr (.pr (.own (.own .imm)) .imm) .imm)), r⟩], []) := by
  show _ = bindF _ _
  conv => rhs; simp only [zCQ, bindF_ifB, bindF_bindO, bindF_pure, bindF_none, bindF_onSum]
  kernel_rfl
theorem zCQ.ok (N : Nat) : ConOk Tryz.prog 8 [.one, .one, .one] (zCQ.con N) := ok3 (g := zCQ.cfg N) (N := N) (res := [(false, (.pr (.pr (.own .imm) .imm) (.pr (.pr (.own (.own .imm)) .imm) .imm)))]) tys_ok (zCQ.cons N) mixed Tryz.func8 (zCQ.ls N) rfl (zCQ.b N)
theorem zCQ.det (N : Nat) : ConDet (zCQ.con N) := det3
def zB5.sk4 : Skel := ⟨.pv s23 :: (.pv s23 :: (dd 3 (.pv (.int .i64) :: (dd 20 [])))), []⟩
def zB5.xs4 : List XS := [⟨.exit 0, [], ⟨dd 26 [], []⟩⟩, ⟨.ret, [4], ⟨dd 4 (.pv .bool :: (dd 21 [])), []⟩⟩]
def zB5.con (N : Nat) : Con := { modes := [.v, .v], ptrs := [false], fn := fn2 s23 .imm s23 .imm (zB5 N) (fun r => [⟨.bool, .imm, r⟩]) (fun r => []) }
def zB5.cfg (N : Nat) : Cfg := { ty := tys, keep := [], flt := [], elm := elm0, live := [(4, [0, 1, 5])], ord := [(6, [0, 1, 2, 3, 4, 5, 6, 7, 8])], con := [], loops := [(4, loopCon N zB5.sk4 zB5.xs4 (fun {R} => zB5.l4 (R := R) N))], joins := [] }
theorem zB5.cons (N : Nat) : ConsOk Tryz.prog (zB5.cfg N).con := consOk_nil
theorem zB5.h4 {R : Type} (N : Nat) (d : zB5.sk4.D) (kn : zB5.sk4.D → Option R) (kx : XD zB5.xs4 → Option R) : roundK (zB5.cfg N) N (nthLoop (fnBody Tryz.f9) 0) zB5.sk4 zB5.xs4 d kn kx = zB5.l4 N d kn kx := by kernel_rfl
theorem zB5.i4 (N : Nat) : LoopsOk Tryz.prog (zB5.cfg N) (nthLoop (fnBody Tryz.f9) 0) := loopsL (l := []) (by kernel_rfl) trivial
theorem zB5.o4 (N : Nat) : LoopOk Tryz.prog (nthLoop (fnBody Tryz.f9) 0) (loopCon N zB5.sk4 zB5.xs4 (fun {R} => zB5.l4 (R := R) N)) := loop_ok (g := zB5.cfg N) tys_ok (zB5.cons N) mixed (zB5.i4 N) (fun d kn kx => zB5.h4 N d kn kx)
theorem zB5.ls (N : Nat) : LoopsOk Tryz.prog (zB5.cfg N) (fnBody Tryz.f9) := loopsL (l := [nthLoop (fnBody Tryz.f9) 0]) (by kernel_rfl) ⟨loopOne (L0 := loopCon N zB5.sk4 zB5.xs4 (fun {R} => zB5.l4 (R := R) N)) (id := 4) (by kernel_rfl) (by kernel_rfl) (zB5.o4 N), trivial⟩
theorem zB5.q4 {R R' : Type} {N n : Nat} {d} {k} {g : R → Option R'} : bindF (loopP (zB5.l4 N) n d k) g = loopP (zB5.l4 N) n d fun e => bindF (k e) g := bindF_loopP (fun d kn kx => by simp only [zB5.l4, bindF_ifB, bindF_bindO, bindF_pure, bindF_none, bindF_onSum]) n d k
theorem zB5.b (N : Nat) (x0 : den s23) (x1 : den s23) : body (zB5.cfg N) N Tryz.f9 [.one, .one] [.v, .v] [(false, .imm)] [⟨s23, .imm, x0⟩, ⟨s23, .imm, x1⟩] (fun r i => some (r, i)) = bindO (zB5 N x0 x1) fun r => some ([⟨.bool, .imm, r⟩], []) := by
  show _ = bindF _ _
  conv => rhs; simp only [zB5, bindF_ifB, bindF_bindO, bindF_pure, bindF_none, bindF_onSum, zB5.q4]
  kernel_rfl
theorem zB5.ok (N : Nat) : ConOk Tryz.prog 9 [.one, .one] (zB5.con N) := ok2 (g := zB5.cfg N) (N := N) (res := [(false, .imm)]) tys_ok (zB5.cons N) mixed Tryz.func9 (zB5.ls N) rfl (zB5.b N)
theorem zB5.det (N : Nat) : ConDet (zB5.con N) := det2
def zBR.con (N : Nat) : Con := { modes := [.v, .v], ptrs := [false], fn := fn2 (.int .i64) .imm (.int .i64) .imm (zBR N) (fun r => [⟨(.int .i64), .imm, r⟩]) (fun r => []) }
def zBR.cfg (N : Nat) : Cfg := { ty := tys, keep := [], flt := [], elm := elm0, live := [], ord := [], con := [], loops := [], joins := [] }
theorem zBR.cons (N : Nat) : ConsOk Tryz.prog (zBR.cfg N).con := consOk_nil
theorem zBR.ls (N : Nat) : LoopsOk Tryz.prog (zBR.cfg N) (fnBody Tryz.f51) := loopsL (l := []) (by kernel_rfl) trivial
theorem zBR.b (N : Nat) (x0 : den (.int .i64)) (x1 : den (.int .i64)) : body (zBR.cfg N) N Tryz.f51 [.one, .one] [.v, .v] [(false, .imm)] [⟨(.int .i64), .imm, x0⟩, ⟨(.int .i64), .imm, x1⟩] (fun r i => some (r, i)) = bindO (zBR N x0 x1) fun r => some ([⟨(.int .i64), .imm, r⟩], []) := by
  show _ = bindF _ _
  conv => rhs; simp only [zBR, bindF_ifB, bindF_bindO, bindF_pure, bindF_none, bindF_onSum]
  kernel_rfl
theorem zBR.ok (N : Nat) : ConOk Tryz.prog 51 [.one, .one] (zBR.con N) := ok2 (g := zBR.cfg N) (N := N) (res := [(false, .imm)]) tys_ok (zBR.cons N) mixed Tryz.func51 (zBR.ls N) rfl (zBR.b N)
theorem zBR.det (N : Nat) : ConDet (zBR.con N) := det2
end Go.AE.F
end
