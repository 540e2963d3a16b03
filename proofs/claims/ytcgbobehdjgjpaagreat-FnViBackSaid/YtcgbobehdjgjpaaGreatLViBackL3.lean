/- The printed functions are what the program comes to: contracts. -/
import Derived.Test.YtcgbobehdjgjpaaGreatLViBackL2
noncomputable section
namespace Go.AE.F
open Go.AE Go.Proofs Go.Lib
set_option maxRecDepth 100000
def zBG.con (N : Nat) : Con := { modes := [.v], ptrs := [false], fn := fn1 s27 .imm (zBG N) (fun r => [⟨.bool, .imm, r⟩]) (fun r => []) }
def zBG.cfg (N : Nat) : Cfg := { ty := tys, keep := [10, 17, 20], flt := [], elm := elm0, live := [], ord := [(1, [0, 1, 2, 3, 4, 5, 6, 7, 8, 9, 10, 11, 12, 13, 14, 15, 16, 17, 18, 19])], con := [((37, [.one]), zCA.con N), ((39, [.one]), zBO.con N), ((38, [.one, .one, .one]), zBH.con N)], loops := [], joins := [] }
theorem zBG.cons (N : Nat) : ConsOk Tryz.prog (zBG.cfg N).con := (consOk_cons (hb37) (zCA.ok N) (zCA.det N) (consOk_cons (hb39) (zBO.ok N) (zBO.det N) (consOk_cons (hb38) (zBH.ok N) (zBH.det N) consOk_nil)))
theorem zBG.ls (N : Nat) : LoopsOk Tryz.prog (zBG.cfg N) (fnBody Tryz.f23) := loopsL (l := []) (by kernel_rfl) trivial
theorem zBG.b (N : Nat) (x0 : den s27) : body (zBG.cfg N) N Tryz.f23 [.one] [.v] [(false, .imm)] [⟨s27, .imm, x0⟩] (fun r i => some (r, i)) = bindO (zBG N x0) fun r => some ([⟨.bool, .imm, r⟩], []) := by
  show _ = bindF _ _
  conv => rhs; simp only [zBG, bindF_ifB, bindF_bindO, bindF_pure, bindF_none, bindF_onSum]
  kernel_rfl
theorem zBG.ok (N : Nat) : ConOk Tryz.prog 23 [.one] (zBG.con N) := ok1 (g := zBG.cfg N) (N := N) (res := [(false, .imm)]) tys_ok (zBG.cons N) mixed Tryz.func23 (zBG.ls N) rfl (zBG.b N)
theorem zBG.det (N : Nat) : ConDet (zBG.con N) := det1
def zCK.con (N : Nat) : Con := { modes := [.v], ptrs := [false], fn := fn1 (.int .u8) .imm (zCK N) (fun r => [⟨.bool, .imm, r⟩]) (fun r => []) }
def zCK.cfg (N : Nat) : Cfg := { ty := tys, keep := [], flt := [], elm := elm0, live := [], ord := [], con := [], loops := [], joins := [] }
theorem zCK.cons (N : Nat) : ConsOk Tryz.prog (zCK.cfg N).con := consOk_nil
theorem zCK.ls (N : Nat) : LoopsOk Tryz.prog (zCK.cfg N) (fnBody Tryz.f40) := loopsL (l := []) (by kernel_rfl) trivial
theorem zCK.b (N : Nat) (x0 : den (.int .u8)) : body (zCK.cfg N) N Tryz.f40 [.one] [.v] [(false, .imm)] [⟨(.int .u8), .imm, x0⟩] (fun r i => some (r, i)) = bindO (zCK N x0) fun r => some ([⟨.bool, .imm, r⟩], []) := by
  show _ = bindF _ _
  conv => rhs; simp only [zCK, bindF_ifB, bindF_bindO, bindF_pure, bindF_none, bindF_onSum]
  kernel_rfl
theorem zCK.ok (N : Nat) : ConOk Tryz.prog 40 [.one] (zCK.con N) := ok1 (g := zCK.cfg N) (N := N) (res := [(false, .imm)]) tys_ok (zCK.cons N) mixed Tryz.func40 (zCK.ls N) rfl (zCK.b N)
theorem zCK.det (N : Nat) : ConDet (zCK.con N) := det1
set_option maxHeartbeats 1000000 in
theorem zBM.run (s : ByteArray) (c : Int) (w : World) : Calls Tryz.prog 70 #[.string s, .int .u8 c] w fun e w' => e = .returned (.int .i64 (Go.Lib.indexByte s.data.toList c.toNat.toUInt8)) ∧ w' = w := by
  go_enter Tryz.func70, Tryz.ntmps70
  go_wp2
  rw [run_callFunc_extern Tryz.func84 (by kernel_rfl) (by kernel_rfl) (by kernel_rfl) (e := Extern.BytealgIndexByte.indexByte) (by kernel_rfl), Go.Lib.run_indexByteString]
  simp only [Result.andThen]
  rw [Oper.upon_value]
  go_wp2
  go_ret
  exact ⟨rfl, rfl⟩
def zBM.con (N : Nat) : Con := ibCon (zBM N)
theorem zBM.ok (N : Nat) : ConOk Tryz.prog 70 [.one, .one] (zBM.con N) := ib_conOk zBM.run (fun _ _ => rfl)
theorem zBM.det (N : Nat) : ConDet (zBM.con N) := ib_det
def zB9.con (N : Nat) : Con := { modes := [.v, .v], ptrs := [false], fn := fn2 .str .imm (.int .u8) .imm (zB9 N) (fun r => [⟨(.int .i64), .imm, r⟩]) (fun r => []) }
def zB9.cfg (N : Nat) : Cfg := { ty := tys, keep := [7], flt := [], elm := elm0, live := [], ord := [], con := [((70, [.one, .one]), zBM.con N)], loops := [], joins := [] }
theorem zB9.cons (N : Nat) : ConsOk Tryz.prog (zB9.cfg N).con := (consOk_cons (hb70) (zBM.ok N) (zBM.det N) consOk_nil)
theorem zB9.ls (N : Nat) : LoopsOk Tryz.prog (zB9.cfg N) (fnBody Tryz.f41) := loopsL (l := []) (by kernel_rfl) trivial
theorem zB9.b (N : Nat) (x0 : den .str) (x1 : den (.int .u8)) : body (zB9.cfg N) N Tryz.f41 [.one, .one] [.v, .v] [(false, .imm)] [⟨.str, .imm, x0⟩, ⟨(.int .u8), .imm, x1⟩] (fun r i => some (r, i)) = bindO (zB9 N x0 x1) fun r => some ([⟨(.int .i64), .imm, r⟩], []) := by
  show _ = bindF _ _
  conv => rhs; simp only [zB9, bindF_ifB, bindF_bindO, bindF_pure, bindF_none, bindF_onSum]
  kernel_rfl
theorem zB9.ok (N : Nat) : ConOk Tryz.prog 41 [.one, .one] (zB9.con N) := ok2 (g := zB9.cfg N) (N := N) (res := [(false, .imm)]) tys_ok (zB9.cons N) mixed Tryz.func41 (zB9.ls N) rfl (zB9.b N)
theorem zB9.det (N : Nat) : ConDet (zB9.con N) := det2
def zCF.con (N : Nat) : Con := { modes := [.v], ptrs := [false], fn := fn1 (.int .i64) .imm (zCF N) (fun r => [⟨(.int .i64), .imm, r⟩]) (fun r => []) }
def zCF.cfg (N : Nat) : Cfg := { ty := tys, keep := [], flt := [], elm := elm0, live := [], ord := [], con := [], loops := [], joins := [] }
theorem zCF.cons (N : Nat) : ConsOk Tryz.prog (zCF.cfg N).con := consOk_nil
theorem zCF.ls (N : Nat) : LoopsOk Tryz.prog (zCF.cfg N) (fnBody Tryz.f42) := loopsL (l := []) (by kernel_rfl) trivial
theorem zCF.b (N : Nat) (x0 : den (.int .i64)) : body (zCF.cfg N) N Tryz.f42 [.one] [.v] [(false, .imm)] [⟨(.int .i64), .imm, x0⟩] (fun r i => some (r, i)) = bindO (zCF N x0) fun r => some ([⟨(.int .i64), .imm, r⟩], []) := by
  show _ = bindF _ _
  conv => rhs; simp only [zCF, bindF_ifB, bindF_bindO, bindF_pure, bindF_none, bindF_onSum]
  kernel_rfl
theorem zCF.ok (N : Nat) : ConOk Tryz.prog 42 [.one] (zCF.con N) := ok1 (g := zCF.cfg N) (N := N) (res := [(false, .imm)]) tys_ok (zCF.cons N) mixed Tryz.func42 (zCF.ls N) rfl (zCF.b N)
theorem zCF.det (N : Nat) : ConDet (zCF.con N) := det1
def zAI.sk2 : Skel := ⟨.pv .str :: (dd 1 (.ptr 50 [] :: (dd 1 (.ptr 51 [] :: (dd 108 []))))), [⟨50, s52, .imm, true, false⟩, ⟨51, s52, .imm, true, false⟩]⟩
def zAI.xs2 : List XS := [⟨.exit 0, [0, 2, 4, 78, 79, 80, 81, 106, 107, 108, 109], ⟨.pv .str :: (dd 1 (.ptr 50 [] :: (dd 1 (.ptr 51 [] :: (dd 108 []))))), [⟨50, s52, .imm, true, false⟩, ⟨51, s52, .imm, true, false⟩]⟩⟩]
def zAI.con (N : Nat) : Con := { modes := [.v], ptrs := [false, false], fn := fn1 .str .imm (zAI N) (fun r => [⟨s52, .imm, r.1⟩, ⟨(.int .i64), .imm, r.2⟩]) (fun r => []) }
def zAI.cfg (N : Nat) : Cfg := { ty := tys, keep := [21, 70, 75, 80, 108], flt := [], elm := elm0, live := [(2, [0, 2, 4, 12, 13, 14, 17, 18, 19, 20, 21, 24, 25, 26, 27, 28, 29, 30, 31, 32, 78, 79, 80, 81, 106, 107, 108, 109])], ord := [(5, [0, 1, 2, 3, 4, 5, 6, 7, 8, 9, 10, 11])], con := [((40, [.one]), zCK.con N), ((41, [.one, .one]), zB9.con N), ((42, [.one]), zCF.con N)], loops := [(2, loopCon N zAI.sk2 zAI.xs2 (fun {R} => zAI.l2 (R := R) N))], joins := [] }
theorem zAI.cons (N : Nat) : ConsOk Tryz.prog (zAI.cfg N).con := (consOk_cons (hb40) (zCK.ok N) (zCK.det N) (consOk_cons (hb41) (zB9.ok N) (zB9.det N) (consOk_cons (hb42) (zCF.ok N) (zCF.det N) consOk_nil)))
theorem zAI.h2 {R : Type} (N : Nat) (d : zAI.sk2.D) (kn : zAI.sk2.D → Option R) (kx : XD zAI.xs2 → Option R) : roundK (zAI.cfg N) N (nthLoop (fnBody Tryz.f24) 0) zAI.sk2 zAI.xs2 d kn kx = zAI.l2 N d kn kx := by kernel_rfl
theorem zAI.i2 (N : Nat) : LoopsOk Tryz.prog (zAI.cfg N) (nthLoop (fnBody Tryz.f24) 0) := loopsL (l := []) (by kernel_rfl) trivial
theorem zAI.o2 (N : Nat) : LoopOk Tryz.prog (nthLoop (fnBody Tryz.f24) 0) (loopCon N zAI.sk2 zAI.xs2 (fun {R} => zAI.l2 (R := R) N)) := loop_ok (g := zAI.cfg N) tys_ok (zAI.cons N) mixed (zAI.i2 N) (fun d kn kx => zAI.h2 N d kn kx)
theorem zAI.ls (N : Nat) : LoopsOk Tryz.prog (zAI.cfg N) (fnBody Tryz.f24) := loopsL (l := [nthLoop (fnBody Tryz.f24) 0]) (by kernel_rfl) ⟨loopOne (L0 := loopCon N zAI.sk2 zAI.xs2 (fun {R} => zAI.l2 (R := R) N)) (id := 2) (by kernel_rfl) (by kernel_rfl) (zAI.o2 N), trivial⟩
theorem zAI.q2 {R R' : Type} {N n : Nat} {d} {k} {g : R → Option R'} : bindF (loopP (zAI.l2 N) n d k) g = loopP (zAI.l2 N) n d fun e => bindF (k e) g := bindF_loopP (fun d kn kx => by simp only [zAI.l2, bindF_ifB, bindF_bindO, bindF_pure, bindF_none, bindF_onSum]) n d k
theorem zAI.b (N : Nat) (x0 : den .str) : body (zAI.cfg N) N Tryz.f24 [.one] [.v] [(false, .imm), (false, .imm)] [⟨.str, .imm, x0⟩] (fun r i => some (r, i)) = bindO (zAI N x0) fun r => some ([⟨s52, .imm, r.1⟩, ⟨(.int .i64), .imm, r.2⟩], []) := by
  show _ = bindF _ _
  conv => rhs; simp only [zAI, bindF_ifB, bindF_bindO, bindF_pure, bindF_none, bindF_onSum, zAI.q2]
  kernel_rfl
theorem zAI.ok (N : Nat) : ConOk Tryz.prog 24 [.one] (zAI.con N) := ok1 (g := zAI.cfg N) (N := N) (res := [(false, .imm), (false, .imm)]) tys_ok (zAI.cons N) mixed Tryz.func24 (zAI.ls N) rfl (zAI.b N)
theorem zAI.det (N : Nat) : ConDet (zAI.con N) := det1
def zA8.con (N : Nat) : Con := { modes := [.v], ptrs := [false], fn := fun ds k => match ds with | [d0] => castDm s23 .imm d0 fun x0 => bindO (zA8 N x0) fun r => k [⟨s23, (.own .imm), r⟩] [] | _ => none }
def zA8.cfg (N : Nat) : Cfg := { ty := tys, keep := [], flt := [], elm := elm0, live := [], ord := [], con := [], loops := [], joins := [] }
theorem zA8.cons (N : Nat) : ConsOk Tryz.prog (zA8.cfg N).con := consOk_nil
theorem zA8.ls (N : Nat) : LoopsOk Tryz.prog (zA8.cfg N) (fnBody Tryz.f29) := loopsL (l := []) (by kernel_rfl) trivial
theorem zA8.pu {R : Type} (N : Nat) (x0 : den s23) (f : _ → Option R) : Psh (zA8 N x0) (zA8.g N x0 f) f := by
  unfold zA8 zA8.g
  repeat' (first | exact psh_pure | exact psh_none | refine psh_ifB ?_ ?_ | refine psh_same ?_ ?_ | refine psh_bindO fun _ => ?_)
theorem zA8.b (N : Nat) (x0 : den s23) : body (zA8.cfg N) N Tryz.f29 [.one] [.v] [(false, (.own .imm))] [⟨s23, .imm, x0⟩] (fun r i => some (r, i)) = zA8.g N x0 fun r => some ([⟨s23, (.own .imm), r⟩], []) := by kernel_rfl
theorem zA8.ok (N : Nat) : ConOk Tryz.prog 29 [.one] (zA8.con N) := by
  refine conOk_mk (g := zA8.cfg N) (N := N) (res := [(false, (.own .imm))]) tys_ok (zA8.cons N) mixed Tryz.func29 (zA8.ls N) rfl rfl ?_
  intro ds R k y h
  cases ds with
  | nil => exact none_some h
  | cons d0 ds =>
  cases ds with
  | cons _ _ => exact none_some h
  | nil =>
  have h0 : (castDm s23 .imm d0 fun x0 => bindO (zA8 N x0) fun r => k [⟨s23, (.own .imm), r⟩] []) = some y := h
  clear h
  obtain ⟨x0, rfl, h1⟩ := castDm_eq h0
  exact con_fin' (zA8.b N x0) (zA8.pu N x0 _) h1
theorem zA8.det (N : Nat) : ConDet (zA8.con N) := by
  intro ds R k y h
  cases ds with
  | nil => exact none_some h
  | cons d0 ds =>
  cases ds with
  | cons _ _ => exact none_some h
  | nil =>
  have h0 : (castDm s23 .imm d0 fun x0 => bindO (zA8 N x0) fun r => k [⟨s23, (.own .imm), r⟩] []) = some y := h
  clear h
  obtain ⟨x0, rfl, h1⟩ := castDm_eq h0
  obtain ⟨r, e, h⟩ := bindO_some h1
  refine ⟨_, _, h, fun k' => ?_⟩
  show (castDm s23 .imm (⟨s23, .imm, x0⟩ : Dy) fun x0 => bindO (zA8 N x0) fun r => k' [⟨s23, (.own .imm), r⟩] []) = _
  simp only [castDm_self]
  rw [e]
  rfl
def zCN.con (N : Nat) : Con := { modes := [.v], ptrs := [false], fn := fn1 s24 .imm (zCN N) (fun r => [⟨s24, (.pr (.own .imm) .imm), r⟩]) (fun r => []) }
def zCN.cfg (N : Nat) : Cfg := { ty := tys, keep := [5], flt := [], elm := elm0, live := [], ord := [(1, [0, 1, 3, 4, 5, 6, 2, 7, 8])], con := [((29, [.one]), zA8.con N)], loops := [], joins := [] }
theorem zCN.cons (N : Nat) : ConsOk Tryz.prog (zCN.cfg N).con := (consOk_cons (hb29) (zA8.ok N) (zA8.det N) consOk_nil)
theorem zCN.ls (N : Nat) : LoopsOk Tryz.prog (zCN.cfg N) (fnBody Tryz.f25) := loopsL (l := []) (by kernel_rfl) trivial
theorem zCN.b (N : Nat) (x0 : den s24) : body (zCN.cfg N) N Tryz.f25 [.one] [.v] [(false, (.pr (.own .imm) .imm))] [⟨s24, .imm, x0⟩] (fun r i => some (r, i)) = bindO (zCN N x0) fun r => some ([⟨s24, (.pr (.own .imm) .imm), r⟩], []) := by
  show _ = bindF _ _
  conv => rhs; simp only [zCN, bindF_ifB, bindF_bindO, bindF_pure, bindF_none, bindF_onSum]
  kernel_rfl
theorem zCN.ok (N : Nat) : ConOk Tryz.prog 25 [.one] (zCN.con N) := ok1 (g := zCN.cfg N) (N := N) (res := [(false, (.pr (.own .imm) .imm))]) tys_ok (zCN.cons N) mixed Tryz.func25 (zCN.ls N) rfl (zCN.b N)
theorem zCN.det (N : Nat) : ConDet (zCN.con N) := det1
def zAT.sk3 : Skel := ⟨dd 3 (.ov 50 [] :: (dd 3 (.pv s26 :: (.pv (.int .i64) :: (.pv (.int .i64) :: (dd 10 [])))))), [⟨50, s26, (.own (.own .imm)), false, false⟩]⟩
def zAT.xs3 : List XS := [⟨.exit 0, [3], ⟨dd 3 (.ov 50 [] :: (dd 16 [])), [⟨50, s26, (.own (.own .imm)), false, false⟩]⟩⟩]
def zAT.con (N : Nat) : Con := { modes := [.v], ptrs := [false], fn := fn1 s26 .imm (zAT N) (fun r => [⟨s26, (.own (.own .imm)), r⟩]) (fun r => []) }
def zAT.cfg (N : Nat) : Cfg := { ty := tys, keep := [15], flt := [], elm := elm0, live := [(3, [3, 7, 8, 9])], ord := [], con := [((29, [.one]), zA8.con N)], loops := [(3, loopCon N zAT.sk3 zAT.xs3 (fun {R} => zAT.l3 (R := R) N))], joins := [] }
theorem zAT.cons (N : Nat) : ConsOk Tryz.prog (zAT.cfg N).con := (consOk_cons (hb29) (zA8.ok N) (zA8.det N) consOk_nil)
theorem zAT.h3 {R : Type} (N : Nat) (d : zAT.sk3.D) (kn : zAT.sk3.D → Option R) (kx : XD zAT.xs3 → Option R) : roundK (zAT.cfg N) N (nthLoop (fnBody Tryz.f43) 0) zAT.sk3 zAT.xs3 d kn kx = zAT.l3 N d kn kx := by kernel_rfl
theorem zAT.i3 (N : Nat) : LoopsOk Tryz.prog (zAT.cfg N) (nthLoop (fnBody Tryz.f43) 0) := loopsL (l := []) (by kernel_rfl) trivial
theorem zAT.o3 (N : Nat) : LoopOk Tryz.prog (nthLoop (fnBody Tryz.f43) 0) (loopCon N zAT.sk3 zAT.xs3 (fun {R} => zAT.l3 (R := R) N)) := loop_ok (g := zAT.cfg N) tys_ok (zAT.cons N) mixed (zAT.i3 N) (fun d kn kx => zAT.h3 N d kn kx)
theorem zAT.ls (N : Nat) : LoopsOk Tryz.prog (zAT.cfg N) (fnBody Tryz.f43) := loopsL (l := [nthLoop (fnBody Tryz.f43) 0]) (by kernel_rfl) ⟨loopOne (L0 := loopCon N zAT.sk3 zAT.xs3 (fun {R} => zAT.l3 (R := R) N)) (id := 3) (by kernel_rfl) (by kernel_rfl) (zAT.o3 N), trivial⟩
theorem zAT.q3 {R R' : Type} {N n : Nat} {d} {k} {g : R → Option R'} : bindF (loopP (zAT.l3 N) n d k) g = loopP (zAT.l3 N) n d fun e => bindF (k e) g := bindF_loopP (fun d kn kx => by simp only [zAT.l3, bindF_ifB, bindF_bindO, bindF_pure, bindF_none, bindF_onSum]) n d k
theorem zAT.b (N : Nat) (x0 : den s26) : body (zAT.cfg N) N Tryz.f43 [.one] [.v] [(false, (.own (.own .imm)))] [⟨s26, .imm, x0⟩] (fun r i => some (r, i)) = bindO (zAT N x0) fun r => some ([⟨s26, (.own (.own .imm)), r⟩], []) := by
  show _ = bindF _ _
  conv => rhs; simp only [zAT, bindF_ifB, bindF_bindO, bindF_pure, bindF_none, bindF_onSum, zAT.q3]
  kernel_rfl
theorem zAT.ok (N : Nat) : ConOk Tryz.prog 43 [.one] (zAT.con N) := ok1 (g := zAT.cfg N) (N := N) (res := [(false, (.own (.own .imm)))]) tys_ok (zAT.cons N) mixed Tryz.func43 (zAT.ls N) rfl (zAT.b N)
theorem zAT.det (N : Nat) : ConDet (zAT.con N) := det1
def zCG.con (N : Nat) : Con := { modes := [.v], ptrs := [false], fn := fn1 s27 .imm (zCG N) (fun r => [⟨s27, (.pr (.own (.own .imm)) .imm), r⟩]) (fun r => []) }
def zCG.cfg (N : Nat) : Cfg := { ty := tys, keep := [5], flt := [], elm := elm0, live := [], ord := [(1, [0, 1, 3, 4, 2, 5, 6])], con := [((43, [.one]), zAT.con N)], loops := [], joins := [] }
theorem zCG.cons (N : Nat) : ConsOk Tryz.prog (zCG.cfg N).con := (consOk_cons (hb43) (zAT.ok N) (zAT.det N) consOk_nil)
theorem zCG.ls (N : Nat) : LoopsOk Tryz.prog (zCG.cfg N) (fnBody Tryz.f26) := loopsL (l := []) (by kernel_rfl) trivial
theorem zCG.b (N : Nat) (x0 : den s27) : body (zCG.cfg N) N Tryz.f26 [.one] [.v] [(false, (.pr (.own (.own .imm)) .imm))] [⟨s27, .imm, x0⟩] (fun r i => some (r, i)) = bindO (zCG N x0) fun r => some ([⟨s27, (.pr (.own (.own .imm)) .imm), r⟩], []) := by
  show _ = bindF _ _
  conv => rhs; simp only [zCG, bindF_ifB, bindF_bindO, bindF_pure, bindF_none, bindF_onSum]
  kernel_rfl
theorem zCG.ok (N : Nat) : ConOk Tryz.prog 26 [.one] (zCG.con N) := ok1 (g := zCG.cfg N) (N := N) (res := [(false, (.pr (.own (.own .imm)) .imm))]) tys_ok (zCG.cons N) mixed Tryz.func26 (zCG.ls N) rfl (zCG.b N)
theorem zCG.det (N : Nat) : ConDet (zCG.con N) := det1
def zCJ.con (N : Nat) : Con := { modes := [.v], ptrs := [false], fn := fn1 (.int .i64) .imm (zCJ N) (fun r => [⟨(.int .i64), .imm, r⟩]) (fun r => []) }
def zCJ.cfg (N : Nat) : Cfg := { ty := tys, keep := [5, 20, 23, 27], flt := [], elm := elm0, live := [], ord := [], con := [((66, [.one]), zC5.con N), ((38, [.one, .one, .one]), zBH.con N)], loops := [], joins := [] }
theorem zCJ.cons (N : Nat) : ConsOk Tryz.prog (zCJ.cfg N).con := (consOk_cons (hb66) (zC5.ok N) (zC5.det N) (consOk_cons (hb38) (zBH.ok N) (zBH.det N) consOk_nil))
theorem zCJ.ls (N : Nat) : LoopsOk Tryz.prog (zCJ.cfg N) (fnBody Tryz.f107) := loopsL (l := []) (by kernel_rfl) trivial
theorem zCJ.b (N : Nat) (x0 : den (.int .i64)) : body (zCJ.cfg N) N Tryz.f107 [.one] [.v] [(false, .imm)] [⟨(.int .i64), .imm, x0⟩] (fun r i => some (r, i)) = bindO (zCJ N x0) fun r => some ([⟨(.int .i64), .imm, r⟩], []) := by
  show _ = bindF _ _
  conv => rhs; simp only [zCJ, bindF_ifB, bindF_bindO, bindF_pure, bindF_none, bindF_onSum]
  kernel_rfl
theorem zCJ.ok (N : Nat) : ConOk Tryz.prog 107 [.one] (zCJ.con N) := ok1 (g := zCJ.cfg N) (N := N) (res := [(false, .imm)]) tys_ok (zCJ.cons N) mixed Tryz.func107 (zCJ.ls N) rfl (zCJ.b N)
theorem zCJ.det (N : Nat) : ConDet (zCJ.con N) := det1
def zBI.con (N : Nat) : Con := { modes := [.rd, .v], ptrs := [false], fn := fn2 s24 .imm (.int .i64) .imm (zBI N) (fun r => [⟨.bool, .imm, r⟩]) (fun r => []) }
def zBI.cfg (N : Nat) : Cfg := { ty := tys, keep := [12], flt := [], elm := elm0, live := [], ord := [], con := [((107, [.one]), zCJ.con N)], loops := [], joins := [] }
theorem zBI.cons (N : Nat) : ConsOk Tryz.prog (zBI.cfg N).con := (consOk_cons (hb107) (zCJ.ok N) (zCJ.det N) consOk_nil)
theorem zBI.ls (N : Nat) : LoopsOk Tryz.prog (zBI.cfg N) (fnBody Tryz.f99) := loopsL (l := []) (by kernel_rfl) trivial
theorem zBI.b (N : Nat) (x0 : den s24) (x1 : den (.int .i64)) : body (zBI.cfg N) N Tryz.f99 [.one, .one] [.rd, .v] [(false, .imm)] [⟨s24, .imm, x0⟩, ⟨(.int .i64), .imm, x1⟩] (fun r i => some (r, i)) = bindO (zBI N x0 x1) fun r => some ([⟨.bool, .imm, r⟩], []) := by
  show _ = bindF _ _
  conv => rhs; simp only [zBI, bindF_ifB, bindF_bindO, bindF_pure, bindF_none, bindF_onSum]
  kernel_rfl
theorem zBI.ok (N : Nat) : ConOk Tryz.prog 99 [.one, .one] (zBI.con N) := ok2 (g := zBI.cfg N) (N := N) (res := [(false, .imm)]) tys_ok (zBI.cons N) mixed Tryz.func99 (zBI.ls N) rfl (zBI.b N)
theorem zBI.det (N : Nat) : ConDet (zBI.con N) := det2
end Go.AE.F
end
