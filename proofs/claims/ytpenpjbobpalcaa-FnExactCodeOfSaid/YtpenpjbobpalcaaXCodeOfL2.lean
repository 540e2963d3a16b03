/- The printed functions are what the program comes to: contracts. -/
import Derived.Test.YtpenpjbobpalcaaXCodeOfL1
noncomputable section
namespace Go.AE.F
open Go.AE Go.Proofs
set_option maxRecDepth 100000
def zBD.con (N : Nat) : Con := { modes := [.v], ptrs := [false, false], fn := fn1 (.int .i64) .imm (zBD N) (fun r => [⟨(.int .i64), .imm, r.1⟩, ⟨(.int .i64), .imm, r.2⟩]) (fun r => []) }
def zBD.cfg (N : Nat) : Cfg := { ty := tys, keep := [20], flt := [], elm := elm0, live := [], ord := [], con := [((43, [.one, .one, .one]), zAR.con N)], loops := [], joins := [] }
theorem zBD.cons (N : Nat) : ConsOk Try.prog TB (zBD.cfg N).con := (consOk_cons (hb43) (zAR.ok N) (zAR.det N) consOk_nil)
theorem zBD.ls (N : Nat) : LoopsOk Try.prog TB (zBD.cfg N) (fnBody Try.f42) := loopsL (l := []) (by kernel_rfl) trivial
theorem zBD.b (N : Nat) (x0 : den (.int .i64)) : body (zBD.cfg N) N Try.f42 [.one] [.v] [(false, .imm), (false, .imm)] [⟨(.int .i64), .imm, x0⟩] (fun r i => some (r, i)) = bindO (zBD N x0) fun r => some ([⟨(.int .i64), .imm, r.1⟩, ⟨(.int .i64), .imm, r.2⟩], []) := by
  show _ = bindF _ _
  conv => rhs; simp only [zBD, bindF_ifB, bindF_bindO, bindF_pure, bindF_none, bindF_onSum]
  kernel_rfl
theorem zBD.ok (N : Nat) : ConOk Try.prog TB 42 [.one] (zBD.con N) := ok1 (g := zBD.cfg N) (N := N) (res := [(false, .imm), (false, .imm)]) tys_ok (zBD.cons N) mixed Try.func42 (zBD.ls N) rfl (zBD.b N)
theorem zBD.det (N : Nat) : ConDet (zBD.con N) := det1
def zAC.sk2 : Skel := ⟨.pv .str :: (dd 4 (.pv (.int .i64) :: (.pv (.int .i64) :: (dd 23 [])))), []⟩
def zAC.xs2 : List XS := [⟨.exit 0, [0], ⟨.pv .str :: (dd 29 []), []⟩⟩, ⟨.ret, [2], ⟨dd 2 (.pv .bool :: (dd 27 [])), []⟩⟩]
def zAC.con (N : Nat) : Con := { modes := [.v], ptrs := [false], fn := fn1 .str .imm (zAC N) (fun r => [⟨.bool, .imm, r⟩]) (fun r => []) }
def zAC.cfg (N : Nat) : Cfg := { ty := tys, keep := [29], flt := [], elm := elm0, live := [(2, [0, 5, 6])], ord := [], con := [((43, [.one, .one, .one]), zAR.con N)], loops := [(2, loopCon N zAC.sk2 zAC.xs2 (fun {R} => zAC.l2 (R := R) N))], joins := [] }
theorem zAC.cons (N : Nat) : ConsOk Try.prog TB (zAC.cfg N).con := (consOk_cons (hb43) (zAR.ok N) (zAR.det N) consOk_nil)
theorem zAC.h2 {R : Type} (N : Nat) (d : zAC.sk2.D) (kn : zAC.sk2.D → Option R) (kx : XD zAC.xs2 → Option R) : roundK (zAC.cfg N) N (nthLoop (fnBody Try.f52) 0) zAC.sk2 zAC.xs2 d kn kx = zAC.l2 N d kn kx := by kernel_rfl
theorem zAC.i2 (N : Nat) : LoopsOk Try.prog TB (zAC.cfg N) (nthLoop (fnBody Try.f52) 0) := loopsL (l := []) (by kernel_rfl) trivial
theorem zAC.o2 (N : Nat) : LoopOk Try.prog TB (nthLoop (fnBody Try.f52) 0) (loopCon N zAC.sk2 zAC.xs2 (fun {R} => zAC.l2 (R := R) N)) := loop_ok (g := zAC.cfg N) tys_ok (zAC.cons N) mixed (zAC.i2 N) (fun d kn kx => zAC.h2 N d kn kx)
theorem zAC.ls (N : Nat) : LoopsOk Try.prog TB (zAC.cfg N) (fnBody Try.f52) := loopsL (l := [nthLoop (fnBody Try.f52) 0]) (by kernel_rfl) ⟨loopOne (L0 := loopCon N zAC.sk2 zAC.xs2 (fun {R} => zAC.l2 (R := R) N)) (id := 2) (by kernel_rfl) (by kernel_rfl) (zAC.o2 N), trivial⟩
theorem zAC.q2 {R R' : Type} {N n : Nat} {d} {k} {g : R → Option R'} : bindF (loopP (zAC.l2 N) n d k) g = loopP (zAC.l2 N) n d fun e => bindF (k e) g := bindF_loopP (fun d kn kx => by simp only [zAC.l2, bindF_ifB, bindF_bindO, bindF_pure, bindF_none, bindF_onSum]) n d k
theorem zAC.b (N : Nat) (x0 : den .str) : body (zAC.cfg N) N Try.f52 [.one] [.v] [(false, .imm)] [⟨.str, .imm, x0⟩] (fun r i => some (r, i)) = bindO (zAC N x0) fun r => some ([⟨.bool, .imm, r⟩], []) := by
  show _ = bindF _ _
  conv => rhs; simp only [zAC, bindF_ifB, bindF_bindO, bindF_pure, bindF_none, bindF_onSum, zAC.q2]
  kernel_rfl
theorem zAC.ok (N : Nat) : ConOk Try.prog TB 52 [.one] (zAC.con N) := ok1 (g := zAC.cfg N) (N := N) (res := [(false, .imm)]) tys_ok (zAC.cons N) mixed Try.func52 (zAC.ls N) rfl (zAC.b N)
theorem zAC.det (N : Nat) : ConDet (zAC.con N) := det1
def zAN.con (N : Nat) : Con := { modes := [], ptrs := [false], fn := fun ds k => match ds with | [] => bindO (zAN N) fun r => k [⟨(.sl 9 .str), (.own .imm), r⟩] [] | _ => none }
def zAN.cfg (N : Nat) : Cfg := { ty := tys, keep := [], flt := [], elm := elm0, live := [], ord := [], con := [], loops := [], joins := [] }
theorem zAN.cons (N : Nat) : ConsOk Try.prog TB (zAN.cfg N).con := consOk_nil
theorem zAN.ls (N : Nat) : LoopsOk Try.prog TB (zAN.cfg N) (fnBody Try.f53) := loopsL (l := []) (by kernel_rfl) trivial
theorem zAN.b (N : Nat)  : body (zAN.cfg N) N Try.f53 [] [] [(false, (.own .imm))] [] (fun r i => some (r, i)) = bindO (zAN N) fun r => some ([⟨(.sl 9 .str), (.own .imm), r⟩], []) := by
  show _ = bindF _ _
  conv => rhs; simp only [zAN, bindF_ifB, bindF_bindO, bindF_pure, bindF_none, bindF_onSum]
  kernel_rfl
theorem zAN.ok (N : Nat) : ConOk Try.prog TB 53 [] (zAN.con N) := by
  refine conOk_mk (g := zAN.cfg N) (N := N) (res := [(false, (.own .imm))]) tys_ok (zAN.cons N) mixed Try.func53 (zAN.ls N) rfl rfl rfl ?_
  intro ds R k y h
  cases ds with
  | cons _ _ => exact none_some h
  | nil =>
  have h0 : (bindO (zAN N) fun r => k [⟨(.sl 9 .str), (.own .imm), r⟩] []) = some y := h
  clear h
  exact con_fin (zAN.b N) h0
theorem zAN.det (N : Nat) : ConDet (zAN.con N) := by
  intro ds R k y h
  cases ds with
  | cons _ _ => exact none_some h
  | nil =>
  have h0 : (bindO (zAN N) fun r => k [⟨(.sl 9 .str), (.own .imm), r⟩] []) = some y := h
  clear h
  obtain ⟨r, e, h⟩ := bindO_some h0
  refine ⟨_, _, h, fun k' => ?_⟩
  show (bindO (zAN N) fun r => k' [⟨(.sl 9 .str), (.own .imm), r⟩] []) = _
  skip
  rw [e]
  rfl
def zA1.sk2 : Skel := ⟨.pv (.sl 9 .str) :: (.pv .str :: (dd 5 (.pv (.int .i64) :: (.pv (.int .i64) :: (dd 10 []))))), []⟩
def zA1.xs2 : List XS := [⟨.exit 0, [], ⟨dd 19 [], []⟩⟩, ⟨.ret, [4], ⟨dd 4 (.pv (.int .i64) :: (dd 14 [])), []⟩⟩]
def zA1.con (N : Nat) : Con := { modes := [.v, .v], ptrs := [false], fn := fn2 (.sl 9 .str) .imm .str .imm (zA1 N) (fun r => [⟨(.int .i64), .imm, r⟩]) (fun r => []) }
def zA1.cfg (N : Nat) : Cfg := { ty := tys, keep := [], flt := [], elm := elm0, live := [(2, [0, 1, 7, 8])], ord := [], con := [], loops := [(2, loopCon N zA1.sk2 zA1.xs2 (fun {R} => zA1.l2 (R := R) N))], joins := [] }
theorem zA1.cons (N : Nat) : ConsOk Try.prog TB (zA1.cfg N).con := consOk_nil
theorem zA1.h2 {R : Type} (N : Nat) (d : zA1.sk2.D) (kn : zA1.sk2.D → Option R) (kx : XD zA1.xs2 → Option R) : roundK (zA1.cfg N) N (nthLoop (fnBody Try.f34) 0) zA1.sk2 zA1.xs2 d kn kx = zA1.l2 N d kn kx := by kernel_rfl
theorem zA1.i2 (N : Nat) : LoopsOk Try.prog TB (zA1.cfg N) (nthLoop (fnBody Try.f34) 0) := loopsL (l := []) (by kernel_rfl) trivial
theorem zA1.o2 (N : Nat) : LoopOk Try.prog TB (nthLoop (fnBody Try.f34) 0) (loopCon N zA1.sk2 zA1.xs2 (fun {R} => zA1.l2 (R := R) N)) := loop_ok (g := zA1.cfg N) tys_ok (zA1.cons N) mixed (zA1.i2 N) (fun d kn kx => zA1.h2 N d kn kx)
theorem zA1.ls (N : Nat) : LoopsOk Try.prog TB (zA1.cfg N) (fnBody Try.f34) := loopsL (l := [nthLoop (fnBody Try.f34) 0]) (by kernel_rfl) ⟨loopOne (L0 := loopCon N zA1.sk2 zA1.xs2 (fun {R} => zA1.l2 (R := R) N)) (id := 2) (by kernel_rfl) (by kernel_rfl) (zA1.o2 N), trivial⟩
theorem zA1.q2 {R R' : Type} {N n : Nat} {d} {k} {g : R → Option R'} : bindF (loopP (zA1.l2 N) n d k) g = loopP (zA1.l2 N) n d fun e => bindF (k e) g := bindF_loopP (fun d kn kx => by simp only [zA1.l2, bindF_ifB, bindF_bindO, bindF_pure, bindF_none, bindF_onSum]) n d k
theorem zA1.b (N : Nat) (x0 : den (.sl 9 .str)) (x1 : den .str) : body (zA1.cfg N) N Try.f34 [.one, .one] [.v, .v] [(false, .imm)] [⟨(.sl 9 .str), .imm, x0⟩, ⟨.str, .imm, x1⟩] (fun r i => some (r, i)) = bindO (zA1 N x0 x1) fun r => some ([⟨(.int .i64), .imm, r⟩], []) := by
  show _ = bindF _ _
  conv => rhs; simp only [zA1, bindF_ifB, bindF_bindO, bindF_pure, bindF_none, bindF_onSum, zA1.q2]
  kernel_rfl
theorem zA1.ok (N : Nat) : ConOk Try.prog TB 34 [.one, .one] (zA1.con N) := ok2 (g := zA1.cfg N) (N := N) (res := [(false, .imm)]) tys_ok (zA1.cons N) mixed Try.func34 (zA1.ls N) rfl (zA1.b N)
theorem zA1.det (N : Nat) : ConDet (zA1.con N) := det2
def zA6.con (N : Nat) : Con := { modes := [.v, .v], ptrs := [false], fn := fn2 (.sl 9 .str) .imm .str .imm (zA6 N) (fun r => [⟨.bool, .imm, r⟩]) (fun r => []) }
def zA6.cfg (N : Nat) : Cfg := { ty := tys, keep := [7], flt := [], elm := elm0, live := [], ord := [], con := [((34, [.one, .one]), zA1.con N)], loops := [], joins := [] }
theorem zA6.cons (N : Nat) : ConsOk Try.prog TB (zA6.cfg N).con := (consOk_cons (hb34) (zA1.ok N) (zA1.det N) consOk_nil)
theorem zA6.ls (N : Nat) : LoopsOk Try.prog TB (zA6.cfg N) (fnBody Try.f31) := loopsL (l := []) (by kernel_rfl) trivial
theorem zA6.b (N : Nat) (x0 : den (.sl 9 .str)) (x1 : den .str) : body (zA6.cfg N) N Try.f31 [.one, .one] [.v, .v] [(false, .imm)] [⟨(.sl 9 .str), .imm, x0⟩, ⟨.str, .imm, x1⟩] (fun r i => some (r, i)) = bindO (zA6 N x0 x1) fun r => some ([⟨.bool, .imm, r⟩], []) := by
  show _ = bindF _ _
  conv => rhs; simp only [zA6, bindF_ifB, bindF_bindO, bindF_pure, bindF_none, bindF_onSum]
  kernel_rfl
theorem zA6.ok (N : Nat) : ConOk Try.prog TB 31 [.one, .one] (zA6.con N) := ok2 (g := zA6.cfg N) (N := N) (res := [(false, .imm)]) tys_ok (zA6.cons N) mixed Try.func31 (zA6.ls N) rfl (zA6.b N)
theorem zA6.det (N : Nat) : ConDet (zA6.con N) := det2
def zBA.con (N : Nat) : Con := { modes := [], ptrs := [false], fn := fun ds k => match ds with | [] => bindO (zBA N) fun r => k [⟨s75, (.own .imm), r⟩] [] | _ => none }
def zBA.cfg (N : Nat) : Cfg := { ty := tys, keep := [], flt := [], elm := elm0, live := [], ord := [], con := [], loops := [], joins := [] }
theorem zBA.cons (N : Nat) : ConsOk Try.prog TB (zBA.cfg N).con := consOk_nil
theorem zBA.ls (N : Nat) : LoopsOk Try.prog TB (zBA.cfg N) (fnBody Try.f54) := loopsL (l := []) (by kernel_rfl) trivial
theorem zBA.b (N : Nat)  : body (zBA.cfg N) N Try.f54 [] [] [(false, (.own .imm))] [] (fun r i => some (r, i)) = bindO (zBA N) fun r => some ([⟨s75, (.own .imm), r⟩], []) := by
  show _ = bindF _ _
  conv => rhs; simp only [zBA, bindF_ifB, bindF_bindO, bindF_pure, bindF_none, bindF_onSum]
  kernel_rfl
theorem zBA.ok (N : Nat) : ConOk Try.prog TB 54 [] (zBA.con N) := by
  refine conOk_mk (g := zBA.cfg N) (N := N) (res := [(false, (.own .imm))]) tys_ok (zBA.cons N) mixed Try.func54 (zBA.ls N) rfl rfl rfl ?_
  intro ds R k y h
  cases ds with
  | cons _ _ => exact none_some h
  | nil =>
  have h0 : (bindO (zBA N) fun r => k [⟨s75, (.own .imm), r⟩] []) = some y := h
  clear h
  exact con_fin (zBA.b N) h0
theorem zBA.det (N : Nat) : ConDet (zBA.con N) := by
  intro ds R k y h
  cases ds with
  | cons _ _ => exact none_some h
  | nil =>
  have h0 : (bindO (zBA N) fun r => k [⟨s75, (.own .imm), r⟩] []) = some y := h
  clear h
  obtain ⟨r, e, h⟩ := bindO_some h0
  refine ⟨_, _, h, fun k' => ?_⟩
  show (bindO (zBA N) fun r => k' [⟨s75, (.own .imm), r⟩] []) = _
  skip
  rw [e]
  rfl
def zAW.con (N : Nat) : Con := { modes := [.v], ptrs := [false], fn := fn1 .str .imm (zAW N) (fun r => [⟨.bool, .imm, r⟩]) (fun r => []) }
def zAW.cfg (N : Nat) : Cfg := { ty := tys, keep := [4, 18, 20, 24], flt := [], elm := elm0, live := [], ord := [], con := [((52, [.one]), zAC.con N), ((53, []), zAN.con N), ((31, [.one, .one]), zA6.con N), ((54, []), zBA.con N)], loops := [], joins := [] }
theorem zAW.cons (N : Nat) : ConsOk Try.prog TB (zAW.cfg N).con := (consOk_cons (hb52) (zAC.ok N) (zAC.det N) (consOk_cons (hb53) (zAN.ok N) (zAN.det N) (consOk_cons (hb31) (zA6.ok N) (zA6.det N) (consOk_cons (hb54) (zBA.ok N) (zBA.det N) consOk_nil))))
theorem zAW.ls (N : Nat) : LoopsOk Try.prog TB (zAW.cfg N) (fnBody Try.f49) := loopsL (l := []) (by kernel_rfl) trivial
theorem zAW.b (N : Nat) (x0 : den .str) : body (zAW.cfg N) N Try.f49 [.one] [.v] [(false, .imm)] [⟨.str, .imm, x0⟩] (fun r i => some (r, i)) = bindO (zAW N x0) fun r => some ([⟨.bool, .imm, r⟩], []) := by
  show _ = bindF _ _
  conv => rhs; simp only [zAW, bindF_ifB, bindF_bindO, bindF_pure, bindF_none, bindF_onSum]
  kernel_rfl
theorem zAW.ok (N : Nat) : ConOk Try.prog TB 49 [.one] (zAW.con N) := ok1 (g := zAW.cfg N) (N := N) (res := [(false, .imm)]) tys_ok (zAW.cons N) mixed Try.func49 (zAW.ls N) rfl (zAW.b N)
theorem zAW.det (N : Nat) : ConDet (zAW.con N) := det1
def zB8.con (N : Nat) : Con := { modes := [], ptrs := [false], fn := fun ds k => match ds with | [] => bindO (zB8 N) fun r => k [⟨(.sl 9 .str), (.own .imm), r⟩] [] | _ => none }
def zB8.cfg (N : Nat) : Cfg := { ty := tys, keep := [], flt := [], elm := elm0, live := [], ord := [], con := [], loops := [], joins := [] }
theorem zB8.cons (N : Nat) : ConsOk Try.prog TB (zB8.cfg N).con := consOk_nil
theorem zB8.ls (N : Nat) : LoopsOk Try.prog TB (zB8.cfg N) (fnBody Try.f47) := loopsL (l := []) (by kernel_rfl) trivial
theorem zB8.b (N : Nat)  : body (zB8.cfg N) N Try.f47 [] [] [(false, (.own .imm))] [] (fun r i => some (r, i)) = bindO (zB8 N) fun r => some ([⟨(.sl 9 .str), (.own .imm), r⟩], []) := by
  show _ = bindF _ _
  conv => rhs; simp only [zB8, bindF_ifB, bindF_bindO, bindF_pure, bindF_none, bindF_onSum]
  kernel_rfl
theorem zB8.ok (N : Nat) : ConOk Try.prog TB 47 [] (zB8.con N) := by
  refine conOk_mk (g := zB8.cfg N) (N := N) (res := [(false, (.own .imm))]) tys_ok (zB8.cons N) mixed Try.func47 (zB8.ls N) rfl rfl rfl ?_
  intro ds R k y h
  cases ds with
  | cons _ _ => exact none_some h
  | nil =>
  have h0 : (bindO (zB8 N) fun r => k [⟨(.sl 9 .str), (.own .imm), r⟩] []) = some y := h
  clear h
  exact con_fin (zB8.b N) h0
theorem zB8.det (N : Nat) : ConDet (zB8.con N) := by
  intro ds R k y h
  cases ds with
  | cons _ _ => exact none_some h
  | nil =>
  have h0 : (bindO (zB8 N) fun r => k [⟨(.sl 9 .str), (.own .imm), r⟩] []) = some y := h
  clear h
  obtain ⟨r, e, h⟩ := bindO_some h0
  refine ⟨_, _, h, fun k' => ?_⟩
  show (bindO (zB8 N) fun r => k' [⟨(.sl 9 .str), (.own .imm), r⟩] []) = _
  skip
  rw [e]
  rfl
def zAU.con (N : Nat) : Con := { modes := [.v], ptrs := [false], fn := fn1 s34 .imm (zAU N) (fun r => [⟨.bool, .imm, r⟩]) (fun r => []) }
def zAU.cfg (N : Nat) : Cfg := { ty := tys, keep := [14, 22, 25, 35], flt := [], elm := elm0, live := [], ord := [(6, [0, 1, 2, 3, 5, 6, 4, 7, 8, 9])], con := [((49, [.one]), zAW.con N), ((47, []), zB8.con N), ((31, [.one, .one]), zA6.con N), ((43, [.one, .one, .one]), zAR.con N)], loops := [], joins := [] }
theorem zAU.cons (N : Nat) : ConsOk Try.prog TB (zAU.cfg N).con := (consOk_cons (hb49) (zAW.ok N) (zAW.det N) (consOk_cons (hb47) (zB8.ok N) (zB8.det N) (consOk_cons (hb31) (zA6.ok N) (zA6.det N) (consOk_cons (hb43) (zAR.ok N) (zAR.det N) consOk_nil))))
theorem zAU.ls (N : Nat) : LoopsOk Try.prog TB (zAU.cfg N) (fnBody Try.f44) := loopsL (l := []) (by kernel_rfl) trivial
theorem zAU.b (N : Nat) (x0 : den s34) : body (zAU.cfg N) N Try.f44 [.one] [.v] [(false, .imm)] [⟨s34, .imm, x0⟩] (fun r i => some (r, i)) = bindO (zAU N x0) fun r => some ([⟨.bool, .imm, r⟩], []) := by
  show _ = bindF _ _
  conv => rhs; simp only [zAU, bindF_ifB, bindF_bindO, bindF_pure, bindF_none, bindF_onSum]
  kernel_rfl
theorem zAU.ok (N : Nat) : ConOk Try.prog TB 44 [.one] (zAU.con N) := ok1 (g := zAU.cfg N) (N := N) (res := [(false, .imm)]) tys_ok (zAU.cons N) mixed Try.func44 (zAU.ls N) rfl (zAU.b N)
theorem zAU.det (N : Nat) : ConDet (zAU.con N) := det1
def zAY.con (N : Nat) : Con := { modes := [.v, .v, .io, .io], ptrs := [], fn := fn4 s34 .imm (.int .i64) .imm (.int .i64) .imm (.sl 9 .str) (.own .imm) (zAY N) (fun r => []) (fun r => [⟨(.int .i64), .imm, r.1⟩, ⟨(.sl 9 .str), (.own .imm), r.2⟩]) }
def zAY.cfg (N : Nat) : Cfg := { ty := tys, keep := [21], flt := [], elm := elm0, live := [], ord := [], con := [((31, [.one, .one]), zA6.con N)], loops := [], joins := [] }
theorem zAY.cons (N : Nat) : ConsOk Try.prog TB (zAY.cfg N).con := (consOk_cons (hb31) (zA6.ok N) (zA6.det N) consOk_nil)
theorem zAY.ls (N : Nat) : LoopsOk Try.prog TB (zAY.cfg N) (fnBody Try.f30) := loopsL (l := []) (by kernel_rfl) trivial
theorem zAY.b (N : Nat) (x0 : den s34) (x1 : den (.int .i64)) (x2 : den (.int .i64)) (x3 : den (.sl 9 .str)) : body (zAY.cfg N) N Try.f30 [.one, .one] [.v, .v, .io, .io] [] [⟨s34, .imm, x0⟩, ⟨(.int .i64), .imm, x1⟩, ⟨(.int .i64), .imm, x2⟩, ⟨(.sl 9 .str), (.own .imm), x3⟩] (fun r i => some (r, i)) = bindO (zAY N x0 x1 x2 x3) fun r => some ([], [⟨(.int .i64), .imm, r.1⟩, ⟨(.sl 9 .str), (.own .imm), r.2⟩]) := by
  show _ = bindF _ _
  conv => rhs; simp only [zAY, bindF_ifB, bindF_bindO, bindF_pure, bindF_none, bindF_onSum]
  kernel_rfl
theorem zAY.ok (N : Nat) : ConOk Try.prog TB 30 [.one, .one] (zAY.con N) := ok4 (g := zAY.cfg N) (N := N) (res := []) tys_ok (zAY.cons N) mixed Try.func30 (zAY.ls N) rfl (zAY.b N)
theorem zAY.det (N : Nat) : ConDet (zAY.con N) := det4
def zBG.con (N : Nat) : Con := { modes := [.v, .v, .v], ptrs := [false], fn := fn3 s34 .imm (.int .i64) .imm s34 .imm (zBG N) (fun r => [⟨.bool, .imm, r⟩]) (fun r => []) }
def zBG.cfg (N : Nat) : Cfg := { ty := tys, keep := [13, 32], flt := [], elm := elm0, live := [], ord := [], con := [((43, [.one, .one, .one]), zAR.con N)], loops := [], joins := [] }
theorem zBG.cons (N : Nat) : ConsOk Try.prog TB (zBG.cfg N).con := (consOk_cons (hb43) (zAR.ok N) (zAR.det N) consOk_nil)
theorem zBG.ls (N : Nat) : LoopsOk Try.prog TB (zBG.cfg N) (fnBody Try.f45) := loopsL (l := []) (by kernel_rfl) trivial
theorem zBG.b (N : Nat) (x0 : den s34) (x1 : den (.int .i64)) (x2 : den s34) : body (zBG.cfg N) N Try.f45 [.one, .one, .one] [.v, .v, .v] [(false, .imm)] [⟨s34, .imm, x0⟩, ⟨(.int .i64), .imm, x1⟩, ⟨s34, .imm, x2⟩] (fun r i => some (r, i)) = bindO (zBG N x0 x1 x2) fun r => some ([⟨.bool, .imm, r⟩], []) := by
  show _ = bindF _ _
  conv => rhs; simp only [zBG, bindF_ifB, bindF_bindO, bindF_pure, bindF_none, bindF_onSum]
  kernel_rfl
theorem zBG.ok (N : Nat) : ConOk Try.prog TB 45 [.one, .one, .one] (zBG.con N) := ok3 (g := zBG.cfg N) (N := N) (res := [(false, .imm)]) tys_ok (zBG.cons N) mixed Try.func45 (zBG.ls N) rfl (zBG.b N)
theorem zBG.det (N : Nat) : ConDet (zBG.con N) := det3
def zA0.sk10 : Skel := ⟨.pv s26 :: (.pv (.int .i64) :: (.pv (.int .i64) :: (.fn 30 [.cp 3 [], .cp 4 []] :: (dd 5 (.ptr 50 [] :: (dd 45 (.pv (.int .i64) :: (.pv (.int .i64) :: (dd 26 []))))))))), [⟨3, (.int .i64), .imm, true, false⟩, ⟨4, (.sl 9 .str), (.own .imm), true, false⟩, ⟨50, s34, .imm, true, false⟩]⟩
def zA0.xs10 : List XS := [⟨.exit 0, [1], ⟨dd 1 (.pv (.int .i64) :: (dd 81 [])), [⟨3, (.int .i64), .imm, true, false⟩, ⟨4, (.sl 9 .str), (.own .imm), true, false⟩]⟩⟩, ⟨.ret, [8], ⟨dd 8 (.pv (.int .i64) :: (dd 74 [])), [⟨3, (.int .i64), .imm, true, false⟩, ⟨4, (.sl 9 .str), (.own .imm), true, false⟩]⟩⟩]
def zA0.con (N : Nat) : Con := { modes := [.v, .v, .v, .io, .io], ptrs := [false], fn := fun ds k => match ds with | [d0, d1, d2, d3, d4] => castDm s26 .imm d0 fun x0 => castDm (.int .i64) .imm d1 fun x1 => castDm (.int .i64) .imm d2 fun x2 => castDm (.int .i64) .imm d3 fun x3 => castDm (.sl 9 .str) (.own .imm) d4 fun x4 => bindO (zA0 N x0 x1 x2 x3 x4) fun r => k [⟨(.int .i64), .imm, r.1⟩] [⟨(.int .i64), .imm, r.2.1⟩, ⟨(.sl 9 .str), (.own .imm), r.2.2⟩] | _ => none }
theorem zA0.det (N : Nat) : ConDet (zA0.con N) := by
  intro ds R k y h
  cases ds with
  | nil => exact none_some h
  | cons d0 ds =>
  cases ds with
  | nil => exact none_some h
  | cons d1 ds =>
  cases ds with
  | nil => exact none_some h
  | cons d2 ds =>
  cases ds with
  | nil => exact none_some h
  | cons d3 ds =>
  cases ds with
  | nil => exact none_some h
  | cons d4 ds =>
  cases ds with
  | cons _ _ => exact none_some h
  | nil =>
  have h0 : (castDm s26 .imm d0 fun x0 => castDm (.int .i64) .imm d1 fun x1 => castDm (.int .i64) .imm d2 fun x2 => castDm (.int .i64) .imm d3 fun x3 => castDm (.sl 9 .str) (.own .imm) d4 fun x4 => bindO (zA0 N x0 x1 x2 x3 x4) fun r => k [⟨(.int .i64), .imm, r.1⟩] [⟨(.int .i64), .imm, r.2.1⟩, ⟨(.sl 9 .str), (.own .imm), r.2.2⟩]) = some y := h
  clear h
  obtain ⟨x0, rfl, h1⟩ := castDm_eq h0
  obtain ⟨x1, rfl, h2⟩ := castDm_eq h1
  obtain ⟨x2, rfl, h3⟩ := castDm_eq h2
  obtain ⟨x3, rfl, h4⟩ := castDm_eq h3
  obtain ⟨x4, rfl, h5⟩ := castDm_eq h4
  obtain ⟨r, e, h⟩ := bindO_some h5
  refine ⟨_, _, h, fun k' => ?_⟩
  show (castDm s26 .imm (⟨s26, .imm, x0⟩ : Dy) fun x0 => castDm (.int .i64) .imm (⟨(.int .i64), .imm, x1⟩ : Dy) fun x1 => castDm (.int .i64) .imm (⟨(.int .i64), .imm, x2⟩ : Dy) fun x2 => castDm (.int .i64) .imm (⟨(.int .i64), .imm, x3⟩ : Dy) fun x3 => castDm (.sl 9 .str) (.own .imm) (⟨(.sl 9 .str), (.own .imm), x4⟩ : Dy) fun x4 => bindO (zA0 N x0 x1 x2 x3 x4) fun r => k' [⟨(.int .i64), .imm, r.1⟩] [⟨(.int .i64), .imm, r.2.1⟩, ⟨(.sl 9 .str), (.own .imm), r.2.2⟩]) = _
  simp only [castDm_self]
  rw [e]
  rfl
def zA0.cfg (N : Nat) : Cfg := { ty := tys, keep := [28, 33, 40, 45, 51, 70, 78], flt := [], elm := elm0, live := [(10, [0, 1, 2, 3, 9, 55, 56])], ord := [(12, [0, 1, 2, 3, 4, 5, 6, 7, 8, 9, 10, 11, 12, 13])], con := [((42, [.one]), zBD.con N), ((43, [.one, .one, .one]), zAR.con N), ((44, [.one]), zAU.con N), ((30, [.one, .one]), zAY.con N), ((45, [.one, .one, .one]), zBG.con N), ((29, [.one, .one, .one, .fn 30 2]), zA0.con N)], loops := [(10, loopCon N zA0.sk10 zA0.xs10 (fun {R} => zA0.l10 (R := R) N (zA0 N)))], joins := [] }
theorem zA0.cons (N : Nat) (h : ConOk Try.prog TB 29 [.one, .one, .one, .fn 30 2] (zA0.con N)) : ConsOk Try.prog TB (zA0.cfg N).con := (consOk_cons (hb42) (zBD.ok N) (zBD.det N) (consOk_cons (hb43) (zAR.ok N) (zAR.det N) (consOk_cons (hb44) (zAU.ok N) (zAU.det N) (consOk_cons (hb30) (zAY.ok N) (zAY.det N) (consOk_cons (hb45) (zBG.ok N) (zBG.det N) (consOk_cons (hb29) h (zA0.det N) consOk_nil))))))
theorem zA0.h10 {R : Type} (N : Nat) (d : zA0.sk10.D) (kn : zA0.sk10.D → Option R) (kx : XD zA0.xs10 → Option R) : roundK (zA0.cfg N) N (nthLoop (fnBody Try.f29) 0) zA0.sk10 zA0.xs10 d kn kx = zA0.l10 N (zA0 N) d kn kx := by kernel_rfl
theorem zA0.i10 (N : Nat) (h : ConOk Try.prog TB 29 [.one, .one, .one, .fn 30 2] (zA0.con N)) : LoopsOk Try.prog TB (zA0.cfg N) (nthLoop (fnBody Try.f29) 0) := loopsL (l := []) (by kernel_rfl) trivial
theorem zA0.o10 (N : Nat) (h : ConOk Try.prog TB 29 [.one, .one, .one, .fn 30 2] (zA0.con N)) : LoopOk Try.prog TB (nthLoop (fnBody Try.f29) 0) (loopCon N zA0.sk10 zA0.xs10 (fun {R} => zA0.l10 (R := R) N (zA0 N))) := loop_ok (g := zA0.cfg N) tys_ok (zA0.cons N h) mixed (zA0.i10 N h) (fun d kn kx => zA0.h10 N d kn kx)
theorem zA0.ls (N : Nat) (h : ConOk Try.prog TB 29 [.one, .one, .one, .fn 30 2] (zA0.con N)) : LoopsOk Try.prog TB (zA0.cfg N) (fnBody Try.f29) := loopsL (l := [nthLoop (fnBody Try.f29) 0]) (by kernel_rfl) ⟨loopOne (L0 := loopCon N zA0.sk10 zA0.xs10 (fun {R} => zA0.l10 (R := R) N (zA0 N))) (id := 10) (by kernel_rfl) (by kernel_rfl) (zA0.o10 N h), trivial⟩
theorem zA0.q10 {R R' : Type} {N n : Nat} {rc} {d} {k} {g : R → Option R'} : bindF (loopP (zA0.l10 N rc) n d k) g = loopP (zA0.l10 N rc) n d fun e => bindF (k e) g := bindF_loopP (fun d kn kx => by simp only [zA0.l10, bindF_ifB, bindF_bindO, bindF_pure, bindF_none, bindF_onSum]) n d k
theorem zA0.b (N : Nat) (x0 : den s26) (x1 : den (.int .i64)) (x2 : den (.int .i64)) (x3 : den (.int .i64)) (x4 : den (.sl 9 .str)) : body (zA0.cfg N) N Try.f29 [.one, .one, .one, .fn 30 2] [.v, .v, .v, .io, .io] [(false, .imm)] [⟨s26, .imm, x0⟩, ⟨(.int .i64), .imm, x1⟩, ⟨(.int .i64), .imm, x2⟩, ⟨(.int .i64), .imm, x3⟩, ⟨(.sl 9 .str), (.own .imm), x4⟩] (fun r i => some (r, i)) = bindO (zA0.st N (zA0 N) x0 x1 x2 x3 x4) fun r => some ([⟨(.int .i64), .imm, r.1⟩], [⟨(.int .i64), .imm, r.2.1⟩, ⟨(.sl 9 .str), (.own .imm), r.2.2⟩]) := by
  show _ = bindF _ _
  conv => rhs; simp only [zA0.st, bindF_ifB, bindF_bindO, bindF_pure, bindF_none, bindF_onSum, zA0.q10]
  kernel_rfl
theorem zA0.ok0 : ConOk Try.prog TB 29 [.one, .one, .one, .fn 30 2] (zA0.con 0) := by
  refine ⟨fun _ => ?_, fun b h => by cases h⟩
  intro w m H vs fl ds _ hp ha hc hH hD R k y h
  cases ds with
  | nil => exact none_some h
  | cons d0 ds =>
  cases ds with
  | nil => exact none_some h
  | cons d1 ds =>
  cases ds with
  | nil => exact none_some h
  | cons d2 ds =>
  cases ds with
  | nil => exact none_some h
  | cons d3 ds =>
  cases ds with
  | nil => exact none_some h
  | cons d4 ds =>
  cases ds with
  | cons _ _ => exact none_some h
  | nil =>
  have h0 : (castDm s26 .imm d0 fun x0 => castDm (.int .i64) .imm d1 fun x1 => castDm (.int .i64) .imm d2 fun x2 => castDm (.int .i64) .imm d3 fun x3 => castDm (.sl 9 .str) (.own .imm) d4 fun x4 => bindO (zA0 0 x0 x1 x2 x3 x4) fun r => k [⟨(.int .i64), .imm, r.1⟩] [⟨(.int .i64), .imm, r.2.1⟩, ⟨(.sl 9 .str), (.own .imm), r.2.2⟩]) = some y := h
  clear h
  obtain ⟨x0, rfl, h1⟩ := castDm_eq h0
  obtain ⟨x1, rfl, h2⟩ := castDm_eq h1
  obtain ⟨x2, rfl, h3⟩ := castDm_eq h2
  obtain ⟨x3, rfl, h4⟩ := castDm_eq h3
  obtain ⟨x4, rfl, h5⟩ := castDm_eq h4
  exact none_some h5
theorem zA0.okS (N : Nat) (h : ConOk Try.prog TB 29 [.one, .one, .one, .fn 30 2] (zA0.con N)) : ConOk Try.prog TB 29 [.one, .one, .one, .fn 30 2] (zA0.con (N + 1)) := by
  refine conOk_mk (g := zA0.cfg N) (N := N) (res := [(false, .imm)]) tys_ok (zA0.cons N h) mixed Try.func29 (zA0.ls N h) rfl rfl rfl ?_
  intro ds R k y h
  cases ds with
  | nil => exact none_some h
  | cons d0 ds =>
  cases ds with
  | nil => exact none_some h
  | cons d1 ds =>
  cases ds with
  | nil => exact none_some h
  | cons d2 ds =>
  cases ds with
  | nil => exact none_some h
  | cons d3 ds =>
  cases ds with
  | nil => exact none_some h
  | cons d4 ds =>
  cases ds with
  | cons _ _ => exact none_some h
  | nil =>
  have h0 : (castDm s26 .imm d0 fun x0 => castDm (.int .i64) .imm d1 fun x1 => castDm (.int .i64) .imm d2 fun x2 => castDm (.int .i64) .imm d3 fun x3 => castDm (.sl 9 .str) (.own .imm) d4 fun x4 => bindO (zA0.st N (zA0 N) x0 x1 x2 x3 x4) fun r => k [⟨(.int .i64), .imm, r.1⟩] [⟨(.int .i64), .imm, r.2.1⟩, ⟨(.sl 9 .str), (.own .imm), r.2.2⟩]) = some y := h
  clear h
  obtain ⟨x0, rfl, h1⟩ := castDm_eq h0
  obtain ⟨x1, rfl, h2⟩ := castDm_eq h1
  obtain ⟨x2, rfl, h3⟩ := castDm_eq h2
  obtain ⟨x3, rfl, h4⟩ := castDm_eq h3
  obtain ⟨x4, rfl, h5⟩ := castDm_eq h4
  exact con_fin (zA0.b N x0 x1 x2 x3 x4) h5
theorem zA0.okA : ∀ N : Nat, ConOk Try.prog TB 29 [.one, .one, .one, .fn 30 2] (zA0.con N)
| 0 => zA0.ok0
| N + 1 => zA0.okS N (zA0.okA N)
theorem zA0.ok (N : Nat) : ConOk Try.prog TB 29 [.one, .one, .one, .fn 30 2] (zA0.con N) := (zA0.okA N)
end Go.AE.F
end
