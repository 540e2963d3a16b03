/- The printed functions are what the program comes to: contracts. -/
import Derived.Test.YtpenpjbobpalcaaXCodeOfF4
import Derived.Test.YtpenpjbobpalcaaXCodeOfT
noncomputable section
namespace Go.AE.F
open Go.AE Go.Proofs
set_option maxRecDepth 100000
def zBF.con (N : Nat) : Con := { modes := [.v, .v], ptrs := [false], fn := fn2 s34 .imm (.int .i64) .imm (zBF N) (fun r => [⟨(.int .i64), .imm, r⟩]) (fun r => []) }
def zBF.cfg (N : Nat) : Cfg := { ty := tys, keep := [], flt := [], elm := elm0, live := [], ord := [], con := [], loops := [], joins := [] }
theorem zBF.cons (N : Nat) : ConsOk Try.prog TB (zBF.cfg N).con := consOk_nil
theorem zBF.ls (N : Nat) : LoopsOk Try.prog TB (zBF.cfg N) (fnBody Try.f13) := loopsL (l := []) (by kernel_rfl) trivial
theorem zBF.b (N : Nat) (x0 : den s34) (x1 : den (.int .i64)) : body (zBF.cfg N) N Try.f13 [.one, .one] [.v, .v] [(false, .imm)] [⟨s34, .imm, x0⟩, ⟨(.int .i64), .imm, x1⟩] (fun r i => some (r, i)) = bindO (zBF N x0 x1) fun r => some ([⟨(.int .i64), .imm, r⟩], []) := by
  show _ = bindF _ _
  conv => rhs; simp only [zBF, bindF_ifB, bindF_bindO, bindF_pure, bindF_none, bindF_onSum]
  kernel_rfl
theorem zBF.ok (N : Nat) : ConOk Try.prog TB 13 [.one, .one] (zBF.con N) := ok2 (g := zBF.cfg N) (N := N) (res := [(false, .imm)]) tys_ok (zBF.cons N) mixed Try.func13 (zBF.ls N) rfl (zBF.b N)
theorem zBF.det (N : Nat) : ConDet (zBF.con N) := det2
def zAK.sk5 : Skel := ⟨.pv s22 :: (.pv (.int .i64) :: (dd 3 (.pv (.int .i64) :: (dd 21 [])))), []⟩
def zAK.xs5 : List XS := [⟨.exit 0, [1], ⟨dd 1 (.pv (.int .i64) :: (dd 25 [])), []⟩⟩, ⟨.ret, [4], ⟨dd 4 (.pv (.int .i64) :: (dd 22 [])), []⟩⟩]
def zAK.con (N : Nat) : Con := { modes := [.v, .v], ptrs := [false], fn := fn2 s22 .imm (.int .i64) .imm (zAK N) (fun r => [⟨(.int .i64), .imm, r⟩]) (fun r => []) }
def zAK.cfg (N : Nat) : Cfg := { ty := tys, keep := [23], flt := [], elm := elm0, live := [(5, [0, 1, 5])], ord := [], con := [((13, [.one, .one]), zBF.con N)], loops := [(5, loopCon N zAK.sk5 zAK.xs5 (fun {R} => zAK.l5 (R := R) N))], joins := [] }
theorem zAK.cons (N : Nat) : ConsOk Try.prog TB (zAK.cfg N).con := (consOk_cons (hb13) (zBF.ok N) (zBF.det N) consOk_nil)
theorem zAK.h5 {R : Type} (N : Nat) (d : zAK.sk5.D) (kn : zAK.sk5.D → Option R) (kx : XD zAK.xs5 → Option R) : roundK (zAK.cfg N) N (nthLoop (fnBody Try.f4) 0) zAK.sk5 zAK.xs5 d kn kx = zAK.l5 N d kn kx := by kernel_rfl
theorem zAK.i5 (N : Nat) : LoopsOk Try.prog TB (zAK.cfg N) (nthLoop (fnBody Try.f4) 0) := loopsL (l := []) (by kernel_rfl) trivial
theorem zAK.o5 (N : Nat) : LoopOk Try.prog TB (nthLoop (fnBody Try.f4) 0) (loopCon N zAK.sk5 zAK.xs5 (fun {R} => zAK.l5 (R := R) N)) := loop_ok (g := zAK.cfg N) tys_ok (zAK.cons N) mixed (zAK.i5 N) (fun d kn kx => zAK.h5 N d kn kx)
theorem zAK.ls (N : Nat) : LoopsOk Try.prog TB (zAK.cfg N) (fnBody Try.f4) := loopsL (l := [nthLoop (fnBody Try.f4) 0]) (by kernel_rfl) ⟨loopOne (L0 := loopCon N zAK.sk5 zAK.xs5 (fun {R} => zAK.l5 (R := R) N)) (id := 5) (by kernel_rfl) (by kernel_rfl) (zAK.o5 N), trivial⟩
theorem zAK.q5 {R R' : Type} {N n : Nat} {d} {k} {g : R → Option R'} : bindF (loopP (zAK.l5 N) n d k) g = loopP (zAK.l5 N) n d fun e => bindF (k e) g := bindF_loopP (fun d kn kx => by simp only [zAK.l5, bindF_ifB, bindF_bindO, bindF_pure, bindF_none, bindF_onSum]) n d k
theorem zAK.b (N : Nat) (x0 : den s22) (x1 : den (.int .i64)) : body (zAK.cfg N) N Try.f4 [.one, .one] [.v, .v] [(false, .imm)] [⟨s22, .imm, x0⟩, ⟨(.int .i64), .imm, x1⟩] (fun r i => some (r, i)) = bindO (zAK N x0 x1) fun r => some ([⟨(.int .i64), .imm, r⟩], []) := by
  show _ = bindF _ _
  conv => rhs; simp only [zAK, bindF_ifB, bindF_bindO, bindF_pure, bindF_none, bindF_onSum, zAK.q5]
  kernel_rfl
theorem zAK.ok (N : Nat) : ConOk Try.prog TB 4 [.one, .one] (zAK.con N) := ok2 (g := zAK.cfg N) (N := N) (res := [(false, .imm)]) tys_ok (zAK.cons N) mixed Try.func4 (zAK.ls N) rfl (zAK.b N)
theorem zAK.det (N : Nat) : ConDet (zAK.con N) := det2
def zBE.con (N : Nat) : Con := { modes := [.v], ptrs := [false], fn := fn1 s34 .imm (zBE N) (fun r => [⟨s34, .imm, r⟩]) (fun r => []) }
def zBE.cfg (N : Nat) : Cfg := { ty := tys, keep := [], flt := [], elm := elm0, live := [], ord := [], con := [], loops := [], joins := [] }
theorem zBE.cons (N : Nat) : ConsOk Try.prog TB (zBE.cfg N).con := consOk_nil
theorem zBE.ls (N : Nat) : LoopsOk Try.prog TB (zBE.cfg N) (fnBody Try.f17) := loopsL (l := []) (by kernel_rfl) trivial
theorem zBE.b (N : Nat) (x0 : den s34) : body (zBE.cfg N) N Try.f17 [.one] [.v] [(false, .imm)] [⟨s34, .imm, x0⟩] (fun r i => some (r, i)) = bindO (zBE N x0) fun r => some ([⟨s34, .imm, r⟩], []) := by
  show _ = bindF _ _
  conv => rhs; simp only [zBE, bindF_ifB, bindF_bindO, bindF_pure, bindF_none, bindF_onSum]
  kernel_rfl
theorem zBE.ok (N : Nat) : ConOk Try.prog TB 17 [.one] (zBE.con N) := ok1 (g := zBE.cfg N) (N := N) (res := [(false, .imm)]) tys_ok (zBE.cons N) mixed Try.func17 (zBE.ls N) rfl (zBE.b N)
theorem zBE.det (N : Nat) : ConDet (zBE.con N) := det1
def zAE.sk3 : Skel := ⟨.pv s22 :: (dd 2 (.ov 50 [] :: (.pv (.int .i64) :: (dd 18 [])))), [⟨50, s26, (.own .imm), false, false⟩]⟩
def zAE.xs3 : List XS := [⟨.exit 0, [3], ⟨dd 3 (.ov 50 [] :: (dd 19 [])), [⟨50, s26, (.own .imm), false, false⟩]⟩⟩]
def zAE.con (N : Nat) : Con := { modes := [.v], ptrs := [false], fn := fn1 s22 .imm (zAE N) (fun r => [⟨s26, (.own .imm), r⟩]) (fun r => []) }
def zAE.cfg (N : Nat) : Cfg := { ty := tys, keep := [20], flt := [], elm := elm0, live := [(3, [0, 3, 4])], ord := [], con := [((17, [.one]), zBE.con N)], loops := [(3, loopCon N zAE.sk3 zAE.xs3 (fun {R} => zAE.l3 (R := R) N))], joins := [] }
theorem zAE.cons (N : Nat) : ConsOk Try.prog TB (zAE.cfg N).con := (consOk_cons (hb17) (zBE.ok N) (zBE.det N) consOk_nil)
theorem zAE.h3 {R : Type} (N : Nat) (d : zAE.sk3.D) (kn : zAE.sk3.D → Option R) (kx : XD zAE.xs3 → Option R) : roundK (zAE.cfg N) N (nthLoop (fnBody Try.f6) 0) zAE.sk3 zAE.xs3 d kn kx = zAE.l3 N d kn kx := by kernel_rfl
theorem zAE.i3 (N : Nat) : LoopsOk Try.prog TB (zAE.cfg N) (nthLoop (fnBody Try.f6) 0) := loopsL (l := []) (by kernel_rfl) trivial
theorem zAE.o3 (N : Nat) : LoopOk Try.prog TB (nthLoop (fnBody Try.f6) 0) (loopCon N zAE.sk3 zAE.xs3 (fun {R} => zAE.l3 (R := R) N)) := loop_ok (g := zAE.cfg N) tys_ok (zAE.cons N) mixed (zAE.i3 N) (fun d kn kx => zAE.h3 N d kn kx)
theorem zAE.ls (N : Nat) : LoopsOk Try.prog TB (zAE.cfg N) (fnBody Try.f6) := loopsL (l := [nthLoop (fnBody Try.f6) 0]) (by kernel_rfl) ⟨loopOne (L0 := loopCon N zAE.sk3 zAE.xs3 (fun {R} => zAE.l3 (R := R) N)) (id := 3) (by kernel_rfl) (by kernel_rfl) (zAE.o3 N), trivial⟩
theorem zAE.q3 {R R' : Type} {N n : Nat} {d} {k} {g : R → Option R'} : bindF (loopP (zAE.l3 N) n d k) g = loopP (zAE.l3 N) n d fun e => bindF (k e) g := bindF_loopP (fun d kn kx => by simp only [zAE.l3, bindF_ifB, bindF_bindO, bindF_pure, bindF_none, bindF_onSum]) n d k
theorem zAE.b (N : Nat) (x0 : den s22) : body (zAE.cfg N) N Try.f6 [.one] [.v] [(false, (.own .imm))] [⟨s22, .imm, x0⟩] (fun r i => some (r, i)) = bindO (zAE N x0) fun r => some ([⟨s26, (.own .imm), r⟩], []) := by
  show _ = bindF _ _
  conv => rhs; simp only [zAE, bindF_ifB, bindF_bindO, bindF_pure, bindF_none, bindF_onSum, zAE.q3]
  kernel_rfl
theorem zAE.ok (N : Nat) : ConOk Try.prog TB 6 [.one] (zAE.con N) := ok1 (g := zAE.cfg N) (N := N) (res := [(false, (.own .imm))]) tys_ok (zAE.cons N) mixed Try.func6 (zAE.ls N) rfl (zAE.b N)
theorem zAE.det (N : Nat) : ConDet (zAE.con N) := det1
def zAG.sk4 : Skel := ⟨.pv .str :: (dd 2 (.pv (.int .i64) :: (dd 31 []))), []⟩
def zAG.xs4 : List XS := [⟨.exit 0, [], ⟨dd 35 [], []⟩⟩, ⟨.ret, [2], ⟨dd 2 (.pv .bool :: (dd 32 [])), []⟩⟩]
def zAG.con (N : Nat) : Con := { modes := [.v], ptrs := [false], fn := fn1 .str .imm (zAG N) (fun r => [⟨.bool, .imm, r⟩]) (fun r => []) }
def zAG.cfg (N : Nat) : Cfg := { ty := tys, keep := [], flt := [], elm := elm0, live := [(4, [0, 3])], ord := [], con := [], loops := [(4, loopCon N zAG.sk4 zAG.xs4 (fun {R} => zAG.l4 (R := R) N))], joins := [] }
theorem zAG.cons (N : Nat) : ConsOk Try.prog TB (zAG.cfg N).con := consOk_nil
theorem zAG.h4 {R : Type} (N : Nat) (d : zAG.sk4.D) (kn : zAG.sk4.D → Option R) (kx : XD zAG.xs4 → Option R) : roundK (zAG.cfg N) N (nthLoop (fnBody Try.f50) 0) zAG.sk4 zAG.xs4 d kn kx = zAG.l4 N d kn kx := by kernel_rfl
theorem zAG.i4 (N : Nat) : LoopsOk Try.prog TB (zAG.cfg N) (nthLoop (fnBody Try.f50) 0) := loopsL (l := []) (by kernel_rfl) trivial
theorem zAG.o4 (N : Nat) : LoopOk Try.prog TB (nthLoop (fnBody Try.f50) 0) (loopCon N zAG.sk4 zAG.xs4 (fun {R} => zAG.l4 (R := R) N)) := loop_ok (g := zAG.cfg N) tys_ok (zAG.cons N) mixed (zAG.i4 N) (fun d kn kx => zAG.h4 N d kn kx)
theorem zAG.ls (N : Nat) : LoopsOk Try.prog TB (zAG.cfg N) (fnBody Try.f50) := loopsL (l := [nthLoop (fnBody Try.f50) 0]) (by kernel_rfl) ⟨loopOne (L0 := loopCon N zAG.sk4 zAG.xs4 (fun {R} => zAG.l4 (R := R) N)) (id := 4) (by kernel_rfl) (by kernel_rfl) (zAG.o4 N), trivial⟩
theorem zAG.q4 {R R' : Type} {N n : Nat} {d} {k} {g : R → Option R'} : bindF (loopP (zAG.l4 N) n d k) g = loopP (zAG.l4 N) n d fun e => bindF (k e) g := bindF_loopP (fun d kn kx => by simp only [zAG.l4, bindF_ifB, bindF_bindO, bindF_pure, bindF_none, bindF_onSum]) n d k
theorem zAG.b (N : Nat) (x0 : den .str) : body (zAG.cfg N) N Try.f50 [.one] [.v] [(false, .imm)] [⟨.str, .imm, x0⟩] (fun r i => some (r, i)) = bindO (zAG N x0) fun r => some ([⟨.bool, .imm, r⟩], []) := by
  show _ = bindF _ _
  conv => rhs; simp only [zAG, bindF_ifB, bindF_bindO, bindF_pure, bindF_none, bindF_onSum, zAG.q4]
  kernel_rfl
theorem zAG.ok (N : Nat) : ConOk Try.prog TB 50 [.one] (zAG.con N) := ok1 (g := zAG.cfg N) (N := N) (res := [(false, .imm)]) tys_ok (zAG.cons N) mixed Try.func50 (zAG.ls N) rfl (zAG.b N)
theorem zAG.det (N : Nat) : ConDet (zAG.con N) := det1
def zAX.con (N : Nat) : Con := { modes := [], ptrs := [false], fn := fun ds k => match ds with | [] => bindO (zAX N) fun r => k [⟨(.sl 9 .str), (.own .imm), r⟩] [] | _ => none }
def zAX.cfg (N : Nat) : Cfg := { ty := tys, keep := [], flt := [], elm := elm0, live := [], ord := [], con := [], loops := [], joins := [] }
theorem zAX.cons (N : Nat) : ConsOk Try.prog TB (zAX.cfg N).con := consOk_nil
theorem zAX.ls (N : Nat) : LoopsOk Try.prog TB (zAX.cfg N) (fnBody Try.f55) := loopsL (l := []) (by kernel_rfl) trivial
theorem zAX.b (N : Nat)  : body (zAX.cfg N) N Try.f55 [] [] [(false, (.own .imm))] [] (fun r i => some (r, i)) = bindO (zAX N) fun r => some ([⟨(.sl 9 .str), (.own .imm), r⟩], []) := by
  show _ = bindF _ _
  conv => rhs; simp only [zAX, bindF_ifB, bindF_bindO, bindF_pure, bindF_none, bindF_onSum]
  kernel_rfl
theorem zAX.ok (N : Nat) : ConOk Try.prog TB 55 [] (zAX.con N) := by
  refine conOk_mk (g := zAX.cfg N) (N := N) (res := [(false, (.own .imm))]) tys_ok (zAX.cons N) mixed Try.func55 (zAX.ls N) rfl rfl rfl ?_
  intro ds R k y h
  cases ds with
  | cons _ _ => exact none_some h
  | nil =>
  have h0 : (bindO (zAX N) fun r => k [⟨(.sl 9 .str), (.own .imm), r⟩] []) = some y := h
  clear h
  exact con_fin (zAX.b N) h0
theorem zAX.det (N : Nat) : ConDet (zAX.con N) := by
  intro ds R k y h
  cases ds with
  | cons _ _ => exact none_some h
  | nil =>
  have h0 : (bindO (zAX N) fun r => k [⟨(.sl 9 .str), (.own .imm), r⟩] []) = some y := h
  clear h
  obtain ⟨r, e, h⟩ := bindO_some h0
  refine ⟨_, _, h, fun k' => ?_⟩
  show (bindO (zAX N) fun r => k' [⟨(.sl 9 .str), (.own .imm), r⟩] []) = _
  skip
  rw [e]
  rfl
def zAF.sk3 : Skel := ⟨.pv .str :: (dd 2 (.ov 50 [] :: (.pv (.int .i64) :: (dd 18 [])))), [⟨50, (.sl 9 .str), (.own .imm), false, false⟩]⟩
def zAF.xs3 : List XS := [⟨.exit 0, [], ⟨dd 23 [], []⟩⟩, ⟨.ret, [2], ⟨dd 2 (.pv (.int .i64) :: (dd 20 [])), []⟩⟩]
def zAF.con (N : Nat) : Con := { modes := [.v], ptrs := [false], fn := fn1 .str .imm (zAF N) (fun r => [⟨(.int .i64), .imm, r⟩]) (fun r => []) }
def zAF.cfg (N : Nat) : Cfg := { ty := tys, keep := [5], flt := [], elm := elm0, live := [(3, [0, 3, 4])], ord := [], con := [((55, []), zAX.con N)], loops := [(3, loopCon N zAF.sk3 zAF.xs3 (fun {R} => zAF.l3 (R := R) N))], joins := [] }
theorem zAF.cons (N : Nat) : ConsOk Try.prog TB (zAF.cfg N).con := (consOk_cons (hb55) (zAX.ok N) (zAX.det N) consOk_nil)
theorem zAF.h3 {R : Type} (N : Nat) (d : zAF.sk3.D) (kn : zAF.sk3.D → Option R) (kx : XD zAF.xs3 → Option R) : roundK (zAF.cfg N) N (nthLoop (fnBody Try.f51) 0) zAF.sk3 zAF.xs3 d kn kx = zAF.l3 N d kn kx := by kernel_rfl
theorem zAF.i3 (N : Nat) : LoopsOk Try.prog TB (zAF.cfg N) (nthLoop (fnBody Try.f51) 0) := loopsL (l := []) (by kernel_rfl) trivial
theorem zAF.o3 (N : Nat) : LoopOk Try.prog TB (nthLoop (fnBody Try.f51) 0) (loopCon N zAF.sk3 zAF.xs3 (fun {R} => zAF.l3 (R := R) N)) := loop_ok (g := zAF.cfg N) tys_ok (zAF.cons N) mixed (zAF.i3 N) (fun d kn kx => zAF.h3 N d kn kx)
theorem zAF.ls (N : Nat) : LoopsOk Try.prog TB (zAF.cfg N) (fnBody Try.f51) := loopsL (l := [nthLoop (fnBody Try.f51) 0]) (by kernel_rfl) ⟨loopOne (L0 := loopCon N zAF.sk3 zAF.xs3 (fun {R} => zAF.l3 (R := R) N)) (id := 3) (by kernel_rfl) (by kernel_rfl) (zAF.o3 N), trivial⟩
theorem zAF.q3 {R R' : Type} {N n : Nat} {d} {k} {g : R → Option R'} : bindF (loopP (zAF.l3 N) n d k) g = loopP (zAF.l3 N) n d fun e => bindF (k e) g := bindF_loopP (fun d kn kx => by simp only [zAF.l3, bindF_ifB, bindF_bindO, bindF_pure, bindF_none, bindF_onSum]) n d k
theorem zAF.b (N : Nat) (x0 : den .str) : body (zAF.cfg N) N Try.f51 [.one] [.v] [(false, .imm)] [⟨.str, .imm, x0⟩] (fun r i => some (r, i)) = bindO (zAF N x0) fun r => some ([⟨(.int .i64), .imm, r⟩], []) := by
  show _ = bindF _ _
  conv => rhs; simp only [zAF, bindF_ifB, bindF_bindO, bindF_pure, bindF_none, bindF_onSum, zAF.q3]
  kernel_rfl
theorem zAF.ok (N : Nat) : ConOk Try.prog TB 51 [.one] (zAF.con N) := ok1 (g := zAF.cfg N) (N := N) (res := [(false, .imm)]) tys_ok (zAF.cons N) mixed Try.func51 (zAF.ls N) rfl (zAF.b N)
theorem zAF.det (N : Nat) : ConDet (zAF.con N) := det1
def zB0.con (N : Nat) : Con := { modes := [.v], ptrs := [false], fn := fn1 .str .imm (zB0 N) (fun r => [⟨.bool, .imm, r⟩]) (fun r => []) }
def zB0.cfg (N : Nat) : Cfg := { ty := tys, keep := [4, 12], flt := [], elm := elm0, live := [], ord := [], con := [((50, [.one]), zAG.con N), ((51, [.one]), zAF.con N)], loops := [], joins := [] }
theorem zB0.cons (N : Nat) : ConsOk Try.prog TB (zB0.cfg N).con := (consOk_cons (hb50) (zAG.ok N) (zAG.det N) (consOk_cons (hb51) (zAF.ok N) (zAF.det N) consOk_nil))
theorem zB0.ls (N : Nat) : LoopsOk Try.prog TB (zB0.cfg N) (fnBody Try.f48) := loopsL (l := []) (by kernel_rfl) trivial
theorem zB0.b (N : Nat) (x0 : den .str) : body (zB0.cfg N) N Try.f48 [.one] [.v] [(false, .imm)] [⟨.str, .imm, x0⟩] (fun r i => some (r, i)) = bindO (zB0 N x0) fun r => some ([⟨.bool, .imm, r⟩], []) := by
  show _ = bindF _ _
  conv => rhs; simp only [zB0, bindF_ifB, bindF_bindO, bindF_pure, bindF_none, bindF_onSum]
  kernel_rfl
theorem zB0.ok (N : Nat) : ConOk Try.prog TB 48 [.one] (zB0.con N) := ok1 (g := zB0.cfg N) (N := N) (res := [(false, .imm)]) tys_ok (zB0.cons N) mixed Try.func48 (zB0.ls N) rfl (zB0.b N)
theorem zB0.det (N : Nat) : ConDet (zB0.con N) := det1
def zAS.con (N : Nat) : Con := { modes := [], ptrs := [false], fn := fun ds k => match ds with | [] => bindO (zAS N) fun r => k [⟨(.sl 9 .str), (.own .imm), r⟩] [] | _ => none }
def zAS.cfg (N : Nat) : Cfg := { ty := tys, keep := [], flt := [], elm := elm0, live := [], ord := [], con := [], loops := [], joins := [] }
theorem zAS.cons (N : Nat) : ConsOk Try.prog TB (zAS.cfg N).con := consOk_nil
theorem zAS.ls (N : Nat) : LoopsOk Try.prog TB (zAS.cfg N) (fnBody Try.f41) := loopsL (l := []) (by kernel_rfl) trivial
theorem zAS.b (N : Nat)  : body (zAS.cfg N) N Try.f41 [] [] [(false, (.own .imm))] [] (fun r i => some (r, i)) = bindO (zAS N) fun r => some ([⟨(.sl 9 .str), (.own .imm), r⟩], []) := by
  show _ = bindF _ _
  conv => rhs; simp only [zAS, bindF_ifB, bindF_bindO, bindF_pure, bindF_none, bindF_onSum]
  kernel_rfl
theorem zAS.ok (N : Nat) : ConOk Try.prog TB 41 [] (zAS.con N) := by
  refine conOk_mk (g := zAS.cfg N) (N := N) (res := [(false, (.own .imm))]) tys_ok (zAS.cons N) mixed Try.func41 (zAS.ls N) rfl rfl rfl ?_
  intro ds R k y h
  cases ds with
  | cons _ _ => exact none_some h
  | nil =>
  have h0 : (bindO (zAS N) fun r => k [⟨(.sl 9 .str), (.own .imm), r⟩] []) = some y := h
  clear h
  exact con_fin (zAS.b N) h0
theorem zAS.det (N : Nat) : ConDet (zAS.con N) := by
  intro ds R k y h
  cases ds with
  | cons _ _ => exact none_some h
  | nil =>
  have h0 : (bindO (zAS N) fun r => k [⟨(.sl 9 .str), (.own .imm), r⟩] []) = some y := h
  clear h
  obtain ⟨r, e, h⟩ := bindO_some h0
  refine ⟨_, _, h, fun k' => ?_⟩
  show (bindO (zAS N) fun r => k' [⟨(.sl 9 .str), (.own .imm), r⟩] []) = _
  skip
  rw [e]
  rfl
def zA9.sk3 : Skel := ⟨.pv .str :: (dd 2 (.ov 50 [] :: (.pv (.int .i64) :: (dd 14 [])))), [⟨50, (.sl 9 .str), (.own .imm), false, false⟩]⟩
def zA9.xs3 : List XS := [⟨.exit 0, [], ⟨dd 19 [], []⟩⟩, ⟨.ret, [2], ⟨dd 2 (.pv (.int .i64) :: (dd 16 [])), []⟩⟩]
def zA9.con (N : Nat) : Con := { modes := [.v], ptrs := [false], fn := fn1 .str .imm (zA9 N) (fun r => [⟨(.int .i64), .imm, r⟩]) (fun r => []) }
def zA9.cfg (N : Nat) : Cfg := { ty := tys, keep := [5], flt := [], elm := elm0, live := [(3, [0, 3, 4])], ord := [], con := [((41, []), zAS.con N)], loops := [(3, loopCon N zA9.sk3 zA9.xs3 (fun {R} => zA9.l3 (R := R) N))], joins := [] }
theorem zA9.cons (N : Nat) : ConsOk Try.prog TB (zA9.cfg N).con := (consOk_cons (hb41) (zAS.ok N) (zAS.det N) consOk_nil)
theorem zA9.h3 {R : Type} (N : Nat) (d : zA9.sk3.D) (kn : zA9.sk3.D → Option R) (kx : XD zA9.xs3 → Option R) : roundK (zA9.cfg N) N (nthLoop (fnBody Try.f27) 0) zA9.sk3 zA9.xs3 d kn kx = zA9.l3 N d kn kx := by kernel_rfl
theorem zA9.i3 (N : Nat) : LoopsOk Try.prog TB (zA9.cfg N) (nthLoop (fnBody Try.f27) 0) := loopsL (l := []) (by kernel_rfl) trivial
theorem zA9.o3 (N : Nat) : LoopOk Try.prog TB (nthLoop (fnBody Try.f27) 0) (loopCon N zA9.sk3 zA9.xs3 (fun {R} => zA9.l3 (R := R) N)) := loop_ok (g := zA9.cfg N) tys_ok (zA9.cons N) mixed (zA9.i3 N) (fun d kn kx => zA9.h3 N d kn kx)
theorem zA9.ls (N : Nat) : LoopsOk Try.prog TB (zA9.cfg N) (fnBody Try.f27) := loopsL (l := [nthLoop (fnBody Try.f27) 0]) (by kernel_rfl) ⟨loopOne (L0 := loopCon N zA9.sk3 zA9.xs3 (fun {R} => zA9.l3 (R := R) N)) (id := 3) (by kernel_rfl) (by kernel_rfl) (zA9.o3 N), trivial⟩
theorem zA9.q3 {R R' : Type} {N n : Nat} {d} {k} {g : R → Option R'} : bindF (loopP (zA9.l3 N) n d k) g = loopP (zA9.l3 N) n d fun e => bindF (k e) g := bindF_loopP (fun d kn kx => by simp only [zA9.l3, bindF_ifB, bindF_bindO, bindF_pure, bindF_none, bindF_onSum]) n d k
theorem zA9.b (N : Nat) (x0 : den .str) : body (zA9.cfg N) N Try.f27 [.one] [.v] [(false, .imm)] [⟨.str, .imm, x0⟩] (fun r i => some (r, i)) = bindO (zA9 N x0) fun r => some ([⟨(.int .i64), .imm, r⟩], []) := by
  show _ = bindF _ _
  conv => rhs; simp only [zA9, bindF_ifB, bindF_bindO, bindF_pure, bindF_none, bindF_onSum, zA9.q3]
  kernel_rfl
theorem zA9.ok (N : Nat) : ConOk Try.prog TB 27 [.one] (zA9.con N) := ok1 (g := zA9.cfg N) (N := N) (res := [(false, .imm)]) tys_ok (zA9.cons N) mixed Try.func27 (zA9.ls N) rfl (zA9.b N)
theorem zA9.det (N : Nat) : ConDet (zA9.con N) := det1
def zB7.con (N : Nat) : Con := { modes := [.v], ptrs := [false], fn := fn1 s34 .imm (zB7 N) (fun r => [⟨.bool, .imm, r⟩]) (fun r => []) }
def zB7.cfg (N : Nat) : Cfg := { ty := tys, keep := [37, 47], flt := [], elm := elm0, live := [], ord := [], con := [((48, [.one]), zB0.con N), ((27, [.one]), zA9.con N)], loops := [], joins := [] }
theorem zB7.cons (N : Nat) : ConsOk Try.prog TB (zB7.cfg N).con := (consOk_cons (hb48) (zB0.ok N) (zB0.det N) (consOk_cons (hb27) (zA9.ok N) (zA9.det N) consOk_nil))
theorem zB7.ls (N : Nat) : LoopsOk Try.prog TB (zB7.cfg N) (fnBody Try.f37) := loopsL (l := []) (by kernel_rfl) trivial
theorem zB7.b (N : Nat) (x0 : den s34) : body (zB7.cfg N) N Try.f37 [.one] [.v] [(false, .imm)] [⟨s34, .imm, x0⟩] (fun r i => some (r, i)) = bindO (zB7 N x0) fun r => some ([⟨.bool, .imm, r⟩], []) := by
  show _ = bindF _ _
  conv => rhs; simp only [zB7, bindF_ifB, bindF_bindO, bindF_pure, bindF_none, bindF_onSum]
  kernel_rfl
theorem zB7.ok (N : Nat) : ConOk Try.prog TB 37 [.one] (zB7.con N) := ok1 (g := zB7.cfg N) (N := N) (res := [(false, .imm)]) tys_ok (zB7.cons N) mixed Try.func37 (zB7.ls N) rfl (zB7.b N)
theorem zB7.det (N : Nat) : ConDet (zB7.con N) := det1
def zB3.con (N : Nat) : Con := { modes := [.v], ptrs := [false], fn := fn1 (.int .i64) .imm (zB3 N) (fun r => [⟨.bool, .imm, r⟩]) (fun r => []) }
def zB3.cfg (N : Nat) : Cfg := { ty := tys, keep := [], flt := [], elm := elm0, live := [], ord := [], con := [], loops := [], joins := [] }
theorem zB3.cons (N : Nat) : ConsOk Try.prog TB (zB3.cfg N).con := consOk_nil
theorem zB3.ls (N : Nat) : LoopsOk Try.prog TB (zB3.cfg N) (fnBody Try.f38) := loopsL (l := []) (by kernel_rfl) trivial
theorem zB3.b (N : Nat) (x0 : den (.int .i64)) : body (zB3.cfg N) N Try.f38 [.one] [.v] [(false, .imm)] [⟨(.int .i64), .imm, x0⟩] (fun r i => some (r, i)) = bindO (zB3 N x0) fun r => some ([⟨.bool, .imm, r⟩], []) := by
  show _ = bindF _ _
  conv => rhs; simp only [zB3, bindF_ifB, bindF_bindO, bindF_pure, bindF_none, bindF_onSum]
  kernel_rfl
theorem zB3.ok (N : Nat) : ConOk Try.prog TB 38 [.one] (zB3.con N) := ok1 (g := zB3.cfg N) (N := N) (res := [(false, .imm)]) tys_ok (zB3.cons N) mixed Try.func38 (zB3.ls N) rfl (zB3.b N)
theorem zB3.det (N : Nat) : ConDet (zB3.con N) := det1
end Go.AE.F
end
