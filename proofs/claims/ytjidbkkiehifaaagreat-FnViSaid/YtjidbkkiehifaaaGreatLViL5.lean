/- The printed functions are what the program comes to: contracts. -/
import Derived.Test.YtjidbkkiehifaaaGreatLViL4
noncomputable section
namespace Go.AE.F
open Go.AE Go.Proofs Go.Lib
set_option maxRecDepth 100000
def zBX.con (N : Nat) : Con := { modes := [.v], ptrs := [false], fn := fn1 s23 .imm (zBX N) (fun r => [⟨.bool, .imm, r⟩]) (fun r => []) }
def zBX.cfg (N : Nat) : Cfg := { ty := tys, keep := [4], flt := [], elm := elm0, live := [], ord := [], con := [((61, [.one]), zCT.con N)], loops := [], joins := [] }
theorem zBX.cons (N : Nat) : ConsOk Tryz.prog (zBX.cfg N).con := (consOk_cons (hb61) (zCT.ok N) (zCT.det N) consOk_nil)
theorem zBX.ls (N : Nat) : LoopsOk Tryz.prog (zBX.cfg N) (fnBody Tryz.f60) := loopsL (l := []) (by kernel_rfl) trivial
theorem zBX.b (N : Nat) (x0 : den s23) : body (zBX.cfg N) N Tryz.f60 [.one] [.v] [(false, .imm)] [⟨s23, .imm, x0⟩] (fun r i => some (r, i)) = bindO (zBX N x0) fun r => some ([⟨.bool, .imm, r⟩], []) := by
  show _ = bindF _ _
  conv => rhs; simp only [zBX, bindF_ifB, bindF_bindO, bindF_pure, bindF_none, bindF_onSum]
  kernel_rfl
theorem zBX.ok (N : Nat) : ConOk Tryz.prog 60 [.one] (zBX.con N) := ok1 (g := zBX.cfg N) (N := N) (res := [(false, .imm)]) tys_ok (zBX.cons N) mixed Tryz.func60 (zBX.ls N) rfl (zBX.b N)
theorem zBX.det (N : Nat) : ConDet (zBX.con N) := det1
def zA0.sk2 : Skel := ⟨.pv s26 :: (.fn 60 [] :: (dd 5 (.pv (.int .i64) :: (.pv (.int .i64) :: (dd 10 []))))), []⟩
def zA0.xs2 : List XS := [⟨.exit 0, [], ⟨dd 19 [], []⟩⟩, ⟨.ret, [4], ⟨dd 4 (.pv (.int .i64) :: (dd 14 [])), []⟩⟩]
def zA0.con (N : Nat) : Con := { modes := [.v], ptrs := [false], fn := fn1 s26 .imm (zA0 N) (fun r => [⟨(.int .i64), .imm, r⟩]) (fun r => []) }
def zA0.cfg (N : Nat) : Cfg := { ty := tys, keep := [16], flt := [], elm := elm0, live := [(2, [0, 1, 7, 8])], ord := [], con := [((60, [.one]), zBX.con N)], loops := [(2, loopCon N zA0.sk2 zA0.xs2 (fun {R} => zA0.l2 (R := R) N))], joins := [] }
theorem zA0.cons (N : Nat) : ConsOk Tryz.prog (zA0.cfg N).con := (consOk_cons (hb60) (zBX.ok N) (zBX.det N) consOk_nil)
theorem zA0.h2 {R : Type} (N : Nat) (d : zA0.sk2.D) (kn : zA0.sk2.D → Option R) (kx : XD zA0.xs2 → Option R) : roundK (zA0.cfg N) N (nthLoop (fnBody Tryz.f82) 0) zA0.sk2 zA0.xs2 d kn kx = zA0.l2 N d kn kx := by kernel_rfl
theorem zA0.i2 (N : Nat) : LoopsOk Tryz.prog (zA0.cfg N) (nthLoop (fnBody Tryz.f82) 0) := loopsL (l := []) (by kernel_rfl) trivial
theorem zA0.o2 (N : Nat) : LoopOk Tryz.prog (nthLoop (fnBody Tryz.f82) 0) (loopCon N zA0.sk2 zA0.xs2 (fun {R} => zA0.l2 (R := R) N)) := loop_ok (g := zA0.cfg N) tys_ok (zA0.cons N) mixed (zA0.i2 N) (fun d kn kx => zA0.h2 N d kn kx)
theorem zA0.ls (N : Nat) : LoopsOk Tryz.prog (zA0.cfg N) (fnBody Tryz.f82) := loopsL (l := [nthLoop (fnBody Tryz.f82) 0]) (by kernel_rfl) ⟨loopOne (L0 := loopCon N zA0.sk2 zA0.xs2 (fun {R} => zA0.l2 (R := R) N)) (id := 2) (by kernel_rfl) (by kernel_rfl) (zA0.o2 N), trivial⟩
theorem zA0.q2 {R R' : Type} {N n : Nat} {d} {k} {g : R → Option R'} : bindF (loopP (zA0.l2 N) n d k) g = loopP (zA0.l2 N) n d fun e => bindF (k e) g := bindF_loopP (fun d kn kx => by simp only [zA0.l2, bindF_ifB, bindF_bindO, bindF_pure, bindF_none, bindF_onSum]) n d k
theorem zA0.b (N : Nat) (x0 : den s26) : body (zA0.cfg N) N Tryz.f82 [.one, .fn 60 0] [.v] [(false, .imm)] [⟨s26, .imm, x0⟩] (fun r i => some (r, i)) = bindO (zA0 N x0) fun r => some ([⟨(.int .i64), .imm, r⟩], []) := by
  show _ = bindF _ _
  conv => rhs; simp only [zA0, bindF_ifB, bindF_bindO, bindF_pure, bindF_none, bindF_onSum, zA0.q2]
  kernel_rfl
theorem zA0.ok (N : Nat) : ConOk Tryz.prog 82 [.one, .fn 60 0] (zA0.con N) := ok1 (g := zA0.cfg N) (N := N) (res := [(false, .imm)]) tys_ok (zA0.cons N) mixed Tryz.func82 (zA0.ls N) rfl (zA0.b N)
theorem zA0.det (N : Nat) : ConDet (zA0.con N) := det1
def zA8.con (N : Nat) : Con := { modes := [.v], ptrs := [false], fn := fn1 s26 .imm (zA8 N) (fun r => [⟨.bool, .imm, r⟩]) (fun r => []) }
def zA8.cfg (N : Nat) : Cfg := { ty := tys, keep := [7], flt := [], elm := elm0, live := [], ord := [], con := [((82, [.one, .fn 60 0]), zA0.con N)], loops := [], joins := [] }
theorem zA8.cons (N : Nat) : ConsOk Tryz.prog (zA8.cfg N).con := (consOk_cons (hb82) (zA0.ok N) (zA0.det N) consOk_nil)
theorem zA8.ls (N : Nat) : LoopsOk Tryz.prog (zA8.cfg N) (fnBody Tryz.f59) := loopsL (l := []) (by kernel_rfl) trivial
theorem zA8.b (N : Nat) (x0 : den s26) : body (zA8.cfg N) N Tryz.f59 [.one, .fn 60 0] [.v] [(false, .imm)] [⟨s26, .imm, x0⟩] (fun r i => some (r, i)) = bindO (zA8 N x0) fun r => some ([⟨.bool, .imm, r⟩], []) := by
  show _ = bindF _ _
  conv => rhs; simp only [zA8, bindF_ifB, bindF_bindO, bindF_pure, bindF_none, bindF_onSum]
  kernel_rfl
theorem zA8.ok (N : Nat) : ConOk Tryz.prog 59 [.one, .fn 60 0] (zA8.con N) := ok1 (g := zA8.cfg N) (N := N) (res := [(false, .imm)]) tys_ok (zA8.cons N) mixed Tryz.func59 (zA8.ls N) rfl (zA8.b N)
theorem zA8.det (N : Nat) : ConDet (zA8.con N) := det1
def zCI.con (N : Nat) : Con := { modes := [.v], ptrs := [false], fn := fn1 s26 .imm (zCI N) (fun r => [⟨.bool, .imm, r⟩]) (fun r => []) }
def zCI.cfg (N : Nat) : Cfg := { ty := tys, keep := [4], flt := [], elm := elm0, live := [], ord := [], con := [((59, [.one, .fn 60 0]), zA8.con N)], loops := [], joins := [] }
theorem zCI.cons (N : Nat) : ConsOk Tryz.prog (zCI.cfg N).con := (consOk_cons (hb59) (zA8.ok N) (zA8.det N) consOk_nil)
theorem zCI.ls (N : Nat) : LoopsOk Tryz.prog (zCI.cfg N) (fnBody Tryz.f30) := loopsL (l := []) (by kernel_rfl) trivial
theorem zCI.b (N : Nat) (x0 : den s26) : body (zCI.cfg N) N Tryz.f30 [.one] [.v] [(false, .imm)] [⟨s26, .imm, x0⟩] (fun r i => some (r, i)) = bindO (zCI N x0) fun r => some ([⟨.bool, .imm, r⟩], []) := by
  show _ = bindF _ _
  conv => rhs; simp only [zCI, bindF_ifB, bindF_bindO, bindF_pure, bindF_none, bindF_onSum]
  kernel_rfl
theorem zCI.ok (N : Nat) : ConOk Tryz.prog 30 [.one] (zCI.con N) := ok1 (g := zCI.cfg N) (N := N) (res := [(false, .imm)]) tys_ok (zCI.cons N) mixed Tryz.func30 (zCI.ls N) rfl (zCI.b N)
theorem zCI.det (N : Nat) : ConDet (zCI.con N) := det1
def zBU.con (N : Nat) : Con := { modes := [.v], ptrs := [false], fn := fn1 s26 .imm (zBU N) (fun r => [⟨(.int .i64), .imm, r⟩]) (fun r => []) }
def zBU.cfg (N : Nat) : Cfg := { ty := tys, keep := [], flt := [], elm := elm0, live := [], ord := [], con := [], loops := [], joins := [] }
theorem zBU.cons (N : Nat) : ConsOk Tryz.prog (zBU.cfg N).con := consOk_nil
theorem zBU.ls (N : Nat) : LoopsOk Tryz.prog (zBU.cfg N) (fnBody Tryz.f32) := loopsL (l := []) (by kernel_rfl) trivial
theorem zBU.b (N : Nat) (x0 : den s26) : body (zBU.cfg N) N Tryz.f32 [.one] [.v] [(false, .imm)] [⟨s26, .imm, x0⟩] (fun r i => some (r, i)) = bindO (zBU N x0) fun r => some ([⟨(.int .i64), .imm, r⟩], []) := by
  show _ = bindF _ _
  conv => rhs; simp only [zBU, bindF_ifB, bindF_bindO, bindF_pure, bindF_none, bindF_onSum]
  kernel_rfl
theorem zBU.ok (N : Nat) : ConOk Tryz.prog 32 [.one] (zBU.con N) := ok1 (g := zBU.cfg N) (N := N) (res := [(false, .imm)]) tys_ok (zBU.cons N) mixed Tryz.func32 (zBU.ls N) rfl (zBU.b N)
theorem zBU.det (N : Nat) : ConDet (zBU.con N) := det1
def zB8.con (N : Nat) : Con := { modes := [.v], ptrs := [false], fn := fn1 s27 .imm (zB8 N) (fun r => [⟨.bool, .imm, r⟩]) (fun r => []) }
def zB8.cfg (N : Nat) : Cfg := { ty := tys, keep := [10, 17, 20], flt := [], elm := elm0, live := [], ord := [(1, [0, 1, 2, 3, 4, 5, 6, 7, 8, 9, 10, 11, 12, 13, 14, 15, 16, 17, 18, 19])], con := [((30, [.one]), zCI.con N), ((32, [.one]), zBU.con N), ((31, [.one, .one, .one]), zBM.con N)], loops := [], joins := [] }
theorem zB8.cons (N : Nat) : ConsOk Tryz.prog (zB8.cfg N).con := (consOk_cons (hb30) (zCI.ok N) (zCI.det N) (consOk_cons (hb32) (zBU.ok N) (zBU.det N) (consOk_cons (hb31) (zBM.ok N) (zBM.det N) consOk_nil)))
theorem zB8.ls (N : Nat) : LoopsOk Tryz.prog (zB8.cfg N) (fnBody Tryz.f11) := loopsL (l := []) (by kernel_rfl) trivial
theorem zB8.b (N : Nat) (x0 : den s27) : body (zB8.cfg N) N Tryz.f11 [.one] [.v] [(false, .imm)] [⟨s27, .imm, x0⟩] (fun r i => some (r, i)) = bindO (zB8 N x0) fun r => some ([⟨.bool, .imm, r⟩], []) := by
  show _ = bindF _ _
  conv => rhs; simp only [zB8, bindF_ifB, bindF_bindO, bindF_pure, bindF_none, bindF_onSum]
  kernel_rfl
theorem zB8.ok (N : Nat) : ConOk Tryz.prog 11 [.one] (zB8.con N) := ok1 (g := zB8.cfg N) (N := N) (res := [(false, .imm)]) tys_ok (zB8.cons N) mixed Tryz.func11 (zB8.ls N) rfl (zB8.b N)
theorem zB8.det (N : Nat) : ConDet (zB8.con N) := det1
def zAB.con (N : Nat) : Con := { modes := [.v], ptrs := [false], fn := fun ds k => match ds with | [d0] => castDm s23 .imm d0 fun x0 => bindO (zAB N x0) fun r => k [⟨s23, (.own .imm), r⟩] [] | _ => none }
def zAB.cfg (N : Nat) : Cfg := { ty := tys, keep := [], flt := [], elm := elm0, live := [], ord := [], con := [], loops := [], joins := [] }
theorem zAB.cons (N : Nat) : ConsOk Tryz.prog (zAB.cfg N).con := consOk_nil
theorem zAB.ls (N : Nat) : LoopsOk Tryz.prog (zAB.cfg N) (fnBody Tryz.f44) := loopsL (l := []) (by kernel_rfl) trivial
theorem zAB.pu {R : Type} (N : Nat) (x0 : den s23) (f : _ → Option R) : Psh (zAB N x0) (zAB.g N x0 f) f := by
  unfold zAB zAB.g
  repeat' (first | exact psh_pure | exact psh_none | refine psh_ifB ?_ ?_ | refine psh_same ?_ ?_ | refine psh_bindO fun _ => ?_)
theorem zAB.b (N : Nat) (x0 : den s23) : body (zAB.cfg N) N Tryz.f44 [.one] [.v] [(false, (.own .imm))] [⟨s23, .imm, x0⟩] (fun r i => some (r, i)) = zAB.g N x0 fun r => some ([⟨s23, (.own .imm), r⟩], []) := by kernel_rfl
theorem zAB.ok (N : Nat) : ConOk Tryz.prog 44 [.one] (zAB.con N) := by
  refine conOk_mk (g := zAB.cfg N) (N := N) (res := [(false, (.own .imm))]) tys_ok (zAB.cons N) mixed Tryz.func44 (zAB.ls N) rfl rfl ?_
  intro ds R k y h
  cases ds with
  | nil => exact none_some h
  | cons d0 ds =>
  cases ds with
  | cons _ _ => exact none_some h
  | nil =>
  have h0 : (castDm s23 .imm d0 fun x0 => bindO (zAB N x0) fun r => k [⟨s23, (.own .imm), r⟩] []) = some y := h
  clear h
  obtain ⟨x0, rfl, h1⟩ := castDm_eq h0
  exact con_fin' (zAB.b N x0) (zAB.pu N x0 _) h1
theorem zAB.det (N : Nat) : ConDet (zAB.con N) := by
  intro ds R k y h
  cases ds with
  | nil => exact none_some h
  | cons d0 ds =>
  cases ds with
  | cons _ _ => exact none_some h
  | nil =>
  have h0 : (castDm s23 .imm d0 fun x0 => bindO (zAB N x0) fun r => k [⟨s23, (.own .imm), r⟩] []) = some y := h
  clear h
  obtain ⟨x0, rfl, h1⟩ := castDm_eq h0
  obtain ⟨r, e, h⟩ := bindO_some h1
  refine ⟨_, _, h, fun k' => ?_⟩
  show (castDm s23 .imm (⟨s23, .imm, x0⟩ : Dy) fun x0 => bindO (zAB N x0) fun r => k' [⟨s23, (.own .imm), r⟩] []) = _
  simp only [castDm_self]
  rw [e]
  rfl
def zC1.con (N : Nat) : Con := { modes := [.v], ptrs := [false], fn := fn1 s24 .imm (zC1 N) (fun r => [⟨s24, (.pr (.own .imm) .imm), r⟩]) (fun r => []) }
def zC1.cfg (N : Nat) : Cfg := { ty := tys, keep := [5], flt := [], elm := elm0, live := [], ord := [(1, [0, 1, 3, 4, 5, 6, 2, 7, 8])], con := [((44, [.one]), zAB.con N)], loops := [], joins := [] }
theorem zC1.cons (N : Nat) : ConsOk Tryz.prog (zC1.cfg N).con := (consOk_cons (hb44) (zAB.ok N) (zAB.det N) consOk_nil)
theorem zC1.ls (N : Nat) : LoopsOk Tryz.prog (zC1.cfg N) (fnBody Tryz.f22) := loopsL (l := []) (by kernel_rfl) trivial
theorem zC1.b (N : Nat) (x0 : den s24) : body (zC1.cfg N) N Tryz.f22 [.one] [.v] [(false, (.pr (.own .imm) .imm))] [⟨s24, .imm, x0⟩] (fun r i => some (r, i)) = bindO (zC1 N x0) fun r => some ([⟨s24, (.pr (.own .imm) .imm), r⟩], []) := by
  show _ = bindF _ _
  conv => rhs; simp only [zC1, bindF_ifB, bindF_bindO, bindF_pure, bindF_none, bindF_onSum]
  kernel_rfl
theorem zC1.ok (N : Nat) : ConOk Tryz.prog 22 [.one] (zC1.con N) := ok1 (g := zC1.cfg N) (N := N) (res := [(false, (.pr (.own .imm) .imm))]) tys_ok (zC1.cons N) mixed Tryz.func22 (zC1.ls N) rfl (zC1.b N)
theorem zC1.det (N : Nat) : ConDet (zC1.con N) := det1
def zAS.sk3 : Skel := ⟨dd 3 (.ov 50 [] :: (dd 3 (.pv s26 :: (.pv (.int .i64) :: (.pv (.int .i64) :: (dd 10 [])))))), [⟨50, s26, (.own (.own .imm)), false, false⟩]⟩
def zAS.xs3 : List XS := [⟨.exit 0, [3], ⟨dd 3 (.ov 50 [] :: (dd 16 [])), [⟨50, s26, (.own (.own .imm)), false, false⟩]⟩⟩]
def zAS.con (N : Nat) : Con := { modes := [.v], ptrs := [false], fn := fn1 s26 .imm (zAS N) (fun r => [⟨s26, (.own (.own .imm)), r⟩]) (fun r => []) }
def zAS.cfg (N : Nat) : Cfg := { ty := tys, keep := [15], flt := [], elm := elm0, live := [(3, [3, 7, 8, 9])], ord := [], con := [((44, [.one]), zAB.con N)], loops := [(3, loopCon N zAS.sk3 zAS.xs3 (fun {R} => zAS.l3 (R := R) N))], joins := [] }
theorem zAS.cons (N : Nat) : ConsOk Tryz.prog (zAS.cfg N).con := (consOk_cons (hb44) (zAB.ok N) (zAB.det N) consOk_nil)
theorem zAS.h3 {R : Type} (N : Nat) (d : zAS.sk3.D) (kn : zAS.sk3.D → Option R) (kx : XD zAS.xs3 → Option R) : roundK (zAS.cfg N) N (nthLoop (fnBody Tryz.f45) 0) zAS.sk3 zAS.xs3 d kn kx = zAS.l3 N d kn kx := by kernel_rfl
theorem zAS.i3 (N : Nat) : LoopsOk Tryz.prog (zAS.cfg N) (nthLoop (fnBody Tryz.f45) 0) := loopsL (l := []) (by kernel_rfl) trivial
theorem zAS.o3 (N : Nat) : LoopOk Tryz.prog (nthLoop (fnBody Tryz.f45) 0) (loopCon N zAS.sk3 zAS.xs3 (fun {R} => zAS.l3 (R := R) N)) := loop_ok (g := zAS.cfg N) tys_ok (zAS.cons N) mixed (zAS.i3 N) (fun d kn kx => zAS.h3 N d kn kx)
theorem zAS.ls (N : Nat) : LoopsOk Tryz.prog (zAS.cfg N) (fnBody Tryz.f45) := loopsL (l := [nthLoop (fnBody Tryz.f45) 0]) (by kernel_rfl) ⟨loopOne (L0 := loopCon N zAS.sk3 zAS.xs3 (fun {R} => zAS.l3 (R := R) N)) (id := 3) (by kernel_rfl) (by kernel_rfl) (zAS.o3 N), trivial⟩
theorem zAS.q3 {R R' : Type} {N n : Nat} {d} {k} {g : R → Option R'} : bindF (loopP (zAS.l3 N) n d k) g = loopP (zAS.l3 N) n d fun e => bindF (k e) g := bindF_loopP (fun d kn kx => by simp only [zAS.l3, bindF_ifB, bindF_bindO, bindF_pure, bindF_none, bindF_onSum]) n d k
theorem zAS.b (N : Nat) (x0 : den s26) : body (zAS.cfg N) N Tryz.f45 [.one] [.v] [(false, (.own (.own .imm)))] [⟨s26, .imm, x0⟩] (fun r i => some (r, i)) = bindO (zAS N x0) fun r => some ([⟨s26, (.own (.own .imm)), r⟩], []) := by
  show _ = bindF _ _
  conv => rhs; simp only [zAS, bindF_ifB, bindF_bindO, bindF_pure, bindF_none, bindF_onSum, zAS.q3]
  kernel_rfl
theorem zAS.ok (N : Nat) : ConOk Tryz.prog 45 [.one] (zAS.con N) := ok1 (g := zAS.cfg N) (N := N) (res := [(false, (.own (.own .imm)))]) tys_ok (zAS.cons N) mixed Tryz.func45 (zAS.ls N) rfl (zAS.b N)
theorem zAS.det (N : Nat) : ConDet (zAS.con N) := det1
def zBS.con (N : Nat) : Con := { modes := [.v], ptrs := [false], fn := fn1 s27 .imm (zBS N) (fun r => [⟨s27, (.pr (.own (.own .imm)) .imm), r⟩]) (fun r => []) }
def zBS.cfg (N : Nat) : Cfg := { ty := tys, keep := [5], flt := [], elm := elm0, live := [], ord := [(1, [0, 1, 3, 4, 2, 5, 6])], con := [((45, [.one]), zAS.con N)], loops := [], joins := [] }
theorem zBS.cons (N : Nat) : ConsOk Tryz.prog (zBS.cfg N).con := (consOk_cons (hb45) (zAS.ok N) (zAS.det N) consOk_nil)
theorem zBS.ls (N : Nat) : LoopsOk Tryz.prog (zBS.cfg N) (fnBody Tryz.f23) := loopsL (l := []) (by kernel_rfl) trivial
theorem zBS.b (N : Nat) (x0 : den s27) : body (zBS.cfg N) N Tryz.f23 [.one] [.v] [(false, (.pr (.own (.own .imm)) .imm))] [⟨s27, .imm, x0⟩] (fun r i => some (r, i)) = bindO (zBS N x0) fun r => some ([⟨s27, (.pr (.own (.own .imm)) .imm), r⟩], []) := by
  show _ = bindF _ _
  conv => rhs; simp only [zBS, bindF_ifB, bindF_bindO, bindF_pure, bindF_none, bindF_onSum]
  kernel_rfl
theorem zBS.ok (N : Nat) : ConOk Tryz.prog 23 [.one] (zBS.con N) := ok1 (g := zBS.cfg N) (N := N) (res := [(false, (.pr (.own (.own .imm)) .imm))]) tys_ok (zBS.cons N) mixed Tryz.func23 (zBS.ls N) rfl (zBS.b N)
theorem zBS.det (N : Nat) : ConDet (zBS.con N) := det1
def zCQ.con (N : Nat) : Con := { modes := [.v], ptrs := [false], fn := fn1 (.int .u8) .imm (zCQ N) (fun r => [⟨.bool, .imm, r⟩]) (fun r => []) }
def zCQ.cfg (N : Nat) : Cfg := { ty := tys, keep := [], flt := [], elm := elm0, live := [], ord := [], con := [], loops := [], joins := [] }
theorem zCQ.cons (N : Nat) : ConsOk Tryz.prog (zCQ.cfg N).con := consOk_nil
theorem zCQ.ls (N : Nat) : LoopsOk Tryz.prog (zCQ.cfg N) (fnBody Tryz.f46) := loopsL (l := []) (by kernel_rfl) trivial
theorem zCQ.b (N : Nat) (x0 : den (.int .u8)) : body (zCQ.cfg N) N Tryz.f46 [.one] [.v] [(false, .imm)] [⟨(.int .u8), .imm, x0⟩] (fun r i => some (r, i)) = bindO (zCQ N x0) fun r => some ([⟨.bool, .imm, r⟩], []) := by
  show _ = bindF _ _
  conv => rhs; simp only [zCQ, bindF_ifB, bindF_bindO, bindF_pure, bindF_none, bindF_onSum]
  kernel_rfl
theorem zCQ.ok (N : Nat) : ConOk Tryz.prog 46 [.one] (zCQ.con N) := ok1 (g := zCQ.cfg N) (N := N) (res := [(false, .imm)]) tys_ok (zCQ.cons N) mixed Tryz.func46 (zCQ.ls N) rfl (zCQ.b N)
theorem zCQ.det (N : Nat) : ConDet (zCQ.con N) := det1
set_option maxHeartbeats 1000000 in
theorem zBT.run (s : ByteArray) (c : Int) (w : World) : Calls Tryz.prog 76 #[.string s, .int .u8 c] w fun e w' => e = .returned (.int .i64 (Go.Lib.indexByte s.data.toList c.toNat.toUInt8)) ∧ w' = w := by
  go_enter Tryz.func76, Tryz.ntmps76
  go_wp2
  rw [run_callFunc_extern Tryz.func88 (by kernel_rfl) (by kernel_rfl) (by kernel_rfl) (e := Extern.BytealgIndexByte.indexByte) (by kernel_rfl), Go.Lib.run_indexByteString]
  simp only [Result.andThen]
  rw [Oper.upon_value]
  go_wp2
  go_ret
  exact ⟨rfl, rfl⟩
def zBT.con (N : Nat) : Con := ibCon (zBT N)
theorem zBT.ok (N : Nat) : ConOk Tryz.prog 76 [.one, .one] (zBT.con N) := ib_conOk zBT.run (fun _ _ => rfl)
theorem zBT.det (N : Nat) : ConDet (zBT.con N) := ib_det
end Go.AE.F
end
