/- The printed functions are what the program comes to: contracts. -/
import Derived.Test.YtjofefnjigmnlaaXCodeDepthsL0
namespace Go.AE.F
open Go.AE Go.Proofs
set_option maxRecDepth 100000
def slices_IndexFunc_Simpl_Op_impl_Op__impl_depths_c1.sk2 : Skel := ⟨[.pv (.sl 37 (.pair (.int .i64) (.pair (.int .i64) .unit))), .fn 22 [.cr (.int .i64)], .dead, .dead, .dead, .dead, .dead, .pv (.int .i64), .pv (.int .i64), .dead, .dead, .dead, .dead, .dead, .dead, .dead, .dead, .dead, .dead], []⟩
def slices_IndexFunc_Simpl_Op_impl_Op__impl_depths_c1.xs2 : List XS := [⟨.exit 0, [], ⟨[.dead, .dead, .dead, .dead, .dead, .dead, .dead, .dead, .dead, .dead, .dead, .dead, .dead, .dead, .dead, .dead, .dead, .dead, .dead], []⟩⟩, ⟨.ret, [4], ⟨[.dead, .dead, .dead, .dead, .pv (.int .i64), .dead, .dead, .dead, .dead, .dead, .dead, .dead, .dead, .dead, .dead, .dead, .dead, .dead, .dead], []⟩⟩]
noncomputable def slices_IndexFunc_Simpl_Op_impl_Op__impl_depths_c1.con (N : Nat) : Con := { modes := [.v, .rd], ptrs := [false], fn := fun ds k => match ds with | [d0, d1] => castDm (.sl 37 (.pair (.int .i64) (.pair (.int .i64) .unit))) .imm d0 fun x0 => castDm (.int .i64) .imm d1 fun x1 => bindO (slices_IndexFunc_Simpl_Op_impl_Op__impl_depths_c1 N x0 x1) fun r => k [⟨(.int .i64), .imm, r⟩] [] | _ => none }
noncomputable def slices_IndexFunc_Simpl_Op_impl_Op__impl_depths_c1.cfg (N : Nat) : Cfg := { ty := tys, keep := [16], flt := [], elm := [(22, (.own .imm)), (24, (.own .imm)), (26, (.own .imm))], live := [(2, [0, 1, 7, 8])], ord := [], con := [((22, [.one]), impl_depths_c1.con N)], loops := [(2, loopCon N slices_IndexFunc_Simpl_Op_impl_Op__impl_depths_c1.sk2 slices_IndexFunc_Simpl_Op_impl_Op__impl_depths_c1.xs2 (fun {R} => slices_IndexFunc_Simpl_Op_impl_Op__impl_depths_c1.l2 (R := R) N))], joins := [] }
theorem slices_IndexFunc_Simpl_Op_impl_Op__impl_depths_c1.cons (N : Nat) : ConsOk Try.prog (slices_IndexFunc_Simpl_Op_impl_Op__impl_depths_c1.cfg N).con := (consOk_cons (hb22) (impl_depths_c1.ok N) (impl_depths_c1.det N) consOk_nil)
theorem slices_IndexFunc_Simpl_Op_impl_Op__impl_depths_c1.h2 {R : Type} (N : Nat) (d : slices_IndexFunc_Simpl_Op_impl_Op__impl_depths_c1.sk2.D) (kn : slices_IndexFunc_Simpl_Op_impl_Op__impl_depths_c1.sk2.D → Option R) (kx : XD slices_IndexFunc_Simpl_Op_impl_Op__impl_depths_c1.xs2 → Option R) : roundK (slices_IndexFunc_Simpl_Op_impl_Op__impl_depths_c1.cfg N) N (nthLoop (fnBody Try.f26) 0) slices_IndexFunc_Simpl_Op_impl_Op__impl_depths_c1.sk2 slices_IndexFunc_Simpl_Op_impl_Op__impl_depths_c1.xs2 d kn kx = slices_IndexFunc_Simpl_Op_impl_Op__impl_depths_c1.l2 N d kn kx := by kernel_rfl
theorem slices_IndexFunc_Simpl_Op_impl_Op__impl_depths_c1.i2 (N : Nat) : LoopsOk Try.prog (slices_IndexFunc_Simpl_Op_impl_Op__impl_depths_c1.cfg N) (nthLoop (fnBody Try.f26) 0) := loopsL (l := []) (by kernel_rfl) trivial
theorem slices_IndexFunc_Simpl_Op_impl_Op__impl_depths_c1.o2 (N : Nat) : LoopOk Try.prog (nthLoop (fnBody Try.f26) 0) (loopCon N slices_IndexFunc_Simpl_Op_impl_Op__impl_depths_c1.sk2 slices_IndexFunc_Simpl_Op_impl_Op__impl_depths_c1.xs2 (fun {R} => slices_IndexFunc_Simpl_Op_impl_Op__impl_depths_c1.l2 (R := R) N)) := loop_ok (g := slices_IndexFunc_Simpl_Op_impl_Op__impl_depths_c1.cfg N) tys_ok (slices_IndexFunc_Simpl_Op_impl_Op__impl_depths_c1.cons N) mixed (slices_IndexFunc_Simpl_Op_impl_Op__impl_depths_c1.i2 N) (fun d kn kx => slices_IndexFunc_Simpl_Op_impl_Op__impl_depths_c1.h2 N d kn kx)
theorem slices_IndexFunc_Simpl_Op_impl_Op__impl_depths_c1.ls (N : Nat) : LoopsOk Try.prog (slices_IndexFunc_Simpl_Op_impl_Op__impl_depths_c1.cfg N) (fnBody Try.f26) := loopsL (l := [nthLoop (fnBody Try.f26) 0]) (by kernel_rfl) ⟨loopOne (L0 := loopCon N slices_IndexFunc_Simpl_Op_impl_Op__impl_depths_c1.sk2 slices_IndexFunc_Simpl_Op_impl_Op__impl_depths_c1.xs2 (fun {R} => slices_IndexFunc_Simpl_Op_impl_Op__impl_depths_c1.l2 (R := R) N)) (id := 2) (by kernel_rfl) (by kernel_rfl) (slices_IndexFunc_Simpl_Op_impl_Op__impl_depths_c1.o2 N), trivial⟩
theorem slices_IndexFunc_Simpl_Op_impl_Op__impl_depths_c1.q2 {R R' : Type} {N n : Nat} {d} {k} {g : R → Option R'} : bindF (loopP (slices_IndexFunc_Simpl_Op_impl_Op__impl_depths_c1.l2 N) n d k) g = loopP (slices_IndexFunc_Simpl_Op_impl_Op__impl_depths_c1.l2 N) n d fun e => bindF (k e) g := bindF_loopP (fun d kn kx => by simp only [slices_IndexFunc_Simpl_Op_impl_Op__impl_depths_c1.l2, bindF_ifB, bindF_bindO, bindF_pure, bindF_none, bindF_onSum]) n d k
theorem slices_IndexFunc_Simpl_Op_impl_Op__impl_depths_c1.b (N : Nat) (x0 : den (.sl 37 (.pair (.int .i64) (.pair (.int .i64) .unit)))) (x1 : den (.int .i64)) : body (slices_IndexFunc_Simpl_Op_impl_Op__impl_depths_c1.cfg N) N Try.f26 [.one, .fn 22 1] [.v, .rd] [(false, .imm)] [⟨(.sl 37 (.pair (.int .i64) (.pair (.int .i64) .unit))), .imm, x0⟩, ⟨(.int .i64), .imm, x1⟩] (fun r i => some (r, i)) = bindO (slices_IndexFunc_Simpl_Op_impl_Op__impl_depths_c1 N x0 x1) fun r => some ([⟨(.int .i64), .imm, r⟩], []) := by
  show _ = bindF _ _
  conv => rhs; simp only [slices_IndexFunc_Simpl_Op_impl_Op__impl_depths_c1, bindF_ifB, bindF_bindO, bindF_pure, bindF_none, bindF_onSum, slices_IndexFunc_Simpl_Op_impl_Op__impl_depths_c1.q2]
  kernel_rfl
theorem slices_IndexFunc_Simpl_Op_impl_Op__impl_depths_c1.ok (N : Nat) : ConOk Try.prog 26 [.one, .fn 22 1] (slices_IndexFunc_Simpl_Op_impl_Op__impl_depths_c1.con N) := by
  refine conOk_mk (g := slices_IndexFunc_Simpl_Op_impl_Op__impl_depths_c1.cfg N) (N := N) (res := [(false, .imm)]) tys_ok (slices_IndexFunc_Simpl_Op_impl_Op__impl_depths_c1.cons N) mixed Try.func26 (slices_IndexFunc_Simpl_Op_impl_Op__impl_depths_c1.ls N) rfl rfl ?_
  intro ds R k y h
  cases ds with
  | nil => exact none_some h
  | cons d0 ds =>
  cases ds with
  | nil => exact none_some h
  | cons d1 ds =>
  cases ds with
  | cons _ _ => exact none_some h
  | nil =>
  have h0 : (castDm (.sl 37 (.pair (.int .i64) (.pair (.int .i64) .unit))) .imm d0 fun x0 => castDm (.int .i64) .imm d1 fun x1 => bindO (slices_IndexFunc_Simpl_Op_impl_Op__impl_depths_c1 N x0 x1) fun r => k [⟨(.int .i64), .imm, r⟩] []) = some y := h
  clear h
  obtain ⟨x0, rfl, h1⟩ := castDm_eq h0
  obtain ⟨x1, rfl, h2⟩ := castDm_eq h1
  exact con_fin (slices_IndexFunc_Simpl_Op_impl_Op__impl_depths_c1.b N x0 x1) h2
theorem slices_IndexFunc_Simpl_Op_impl_Op__impl_depths_c1.det (N : Nat) : ConDet (slices_IndexFunc_Simpl_Op_impl_Op__impl_depths_c1.con N) := by
  intro ds R k y h
  cases ds with
  | nil => exact none_some h
  | cons d0 ds =>
  cases ds with
  | nil => exact none_some h
  | cons d1 ds =>
  cases ds with
  | cons _ _ => exact none_some h
  | nil =>
  have h0 : (castDm (.sl 37 (.pair (.int .i64) (.pair (.int .i64) .unit))) .imm d0 fun x0 => castDm (.int .i64) .imm d1 fun x1 => bindO (slices_IndexFunc_Simpl_Op_impl_Op__impl_depths_c1 N x0 x1) fun r => k [⟨(.int .i64), .imm, r⟩] []) = some y := h
  clear h
  obtain ⟨x0, rfl, h1⟩ := castDm_eq h0
  obtain ⟨x1, rfl, h2⟩ := castDm_eq h1
  obtain ⟨r, e, h⟩ := bindO_some h2
  refine ⟨_, _, h, fun k' => ?_⟩
  show (castDm (.sl 37 (.pair (.int .i64) (.pair (.int .i64) .unit))) .imm (⟨(.sl 37 (.pair (.int .i64) (.pair (.int .i64) .unit))), .imm, x0⟩ : Dy) fun x0 => castDm (.int .i64) .imm (⟨(.int .i64), .imm, x1⟩ : Dy) fun x1 => bindO (slices_IndexFunc_Simpl_Op_impl_Op__impl_depths_c1 N x0 x1) fun r => k' [⟨(.int .i64), .imm, r⟩] []) = _
  simp only [castDm_self]
  rw [e]
  rfl
noncomputable def slices_ContainsFunc_Simpl_Op_impl_Op__impl_depths_c1.con (N : Nat) : Con := { modes := [.v, .rd], ptrs := [false], fn := fun ds k => match ds with | [d0, d1] => castDm (.sl 37 (.pair (.int .i64) (.pair (.int .i64) .unit))) .imm d0 fun x0 => castDm (.int .i64) .imm d1 fun x1 => bindO (slices_ContainsFunc_Simpl_Op_impl_Op__impl_depths_c1 N x0 x1) fun r => k [⟨.bool, .imm, r⟩] [] | _ => none }
noncomputable def slices_ContainsFunc_Simpl_Op_impl_Op__impl_depths_c1.cfg (N : Nat) : Cfg := { ty := tys, keep := [7], flt := [], elm := [(22, (.own .imm)), (24, (.own .imm)), (26, (.own .imm))], live := [], ord := [], con := [((26, [.one, .fn 22 1]), slices_IndexFunc_Simpl_Op_impl_Op__impl_depths_c1.con N)], loops := [], joins := [] }
theorem slices_ContainsFunc_Simpl_Op_impl_Op__impl_depths_c1.cons (N : Nat) : ConsOk Try.prog (slices_ContainsFunc_Simpl_Op_impl_Op__impl_depths_c1.cfg N).con := (consOk_cons (hb26) (slices_IndexFunc_Simpl_Op_impl_Op__impl_depths_c1.ok N) (slices_IndexFunc_Simpl_Op_impl_Op__impl_depths_c1.det N) consOk_nil)
theorem slices_ContainsFunc_Simpl_Op_impl_Op__impl_depths_c1.ls (N : Nat) : LoopsOk Try.prog (slices_ContainsFunc_Simpl_Op_impl_Op__impl_depths_c1.cfg N) (fnBody Try.f21) := loopsL (l := []) (by kernel_rfl) trivial
theorem slices_ContainsFunc_Simpl_Op_impl_Op__impl_depths_c1.b (N : Nat) (x0 : den (.sl 37 (.pair (.int .i64) (.pair (.int .i64) .unit)))) (x1 : den (.int .i64)) : body (slices_ContainsFunc_Simpl_Op_impl_Op__impl_depths_c1.cfg N) N Try.f21 [.one, .fn 22 1] [.v, .rd] [(false, .imm)] [⟨(.sl 37 (.pair (.int .i64) (.pair (.int .i64) .unit))), .imm, x0⟩, ⟨(.int .i64), .imm, x1⟩] (fun r i => some (r, i)) = bindO (slices_ContainsFunc_Simpl_Op_impl_Op__impl_depths_c1 N x0 x1) fun r => some ([⟨.bool, .imm, r⟩], []) := by
  show _ = bindF _ _
  conv => rhs; simp only [slices_ContainsFunc_Simpl_Op_impl_Op__impl_depths_c1, bindF_ifB, bindF_bindO, bindF_pure, bindF_none, bindF_onSum]
  kernel_rfl
theorem slices_ContainsFunc_Simpl_Op_impl_Op__impl_depths_c1.ok (N : Nat) : ConOk Try.prog 21 [.one, .fn 22 1] (slices_ContainsFunc_Simpl_Op_impl_Op__impl_depths_c1.con N) := by
  refine conOk_mk (g := slices_ContainsFunc_Simpl_Op_impl_Op__impl_depths_c1.cfg N) (N := N) (res := [(false, .imm)]) tys_ok (slices_ContainsFunc_Simpl_Op_impl_Op__impl_depths_c1.cons N) mixed Try.func21 (slices_ContainsFunc_Simpl_Op_impl_Op__impl_depths_c1.ls N) rfl rfl ?_
  intro ds R k y h
  cases ds with
  | nil => exact none_some h
  | cons d0 ds =>
  cases ds with
  | nil => exact none_some h
  | cons d1 ds =>
  cases ds with
  | cons _ _ => exact none_some h
  | nil =>
  have h0 : (castDm (.sl 37 (.pair (.int .i64) (.pair (.int .i64) .unit))) .imm d0 fun x0 => castDm (.int .i64) .imm d1 fun x1 => bindO (slices_ContainsFunc_Simpl_Op_impl_Op__impl_depths_c1 N x0 x1) fun r => k [⟨.bool, .imm, r⟩] []) = some y := h
  clear h
  obtain ⟨x0, rfl, h1⟩ := castDm_eq h0
  obtain ⟨x1, rfl, h2⟩ := castDm_eq h1
  exact con_fin (slices_ContainsFunc_Simpl_Op_impl_Op__impl_depths_c1.b N x0 x1) h2
theorem slices_ContainsFunc_Simpl_Op_impl_Op__impl_depths_c1.det (N : Nat) : ConDet (slices_ContainsFunc_Simpl_Op_impl_Op__impl_depths_c1.con N) := by
  intro ds R k y h
  cases ds with
  | nil => exact none_some h
  | cons d0 ds =>
  cases ds with
  | nil => exact none_some h
  | cons d1 ds =>
  cases ds with
  | cons _ _ => exact none_some h
  | nil =>
  have h0 : (castDm (.sl 37 (.pair (.int .i64) (.pair (.int .i64) .unit))) .imm d0 fun x0 => castDm (.int .i64) .imm d1 fun x1 => bindO (slices_ContainsFunc_Simpl_Op_impl_Op__impl_depths_c1 N x0 x1) fun r => k [⟨.bool, .imm, r⟩] []) = some y := h
  clear h
  obtain ⟨x0, rfl, h1⟩ := castDm_eq h0
  obtain ⟨x1, rfl, h2⟩ := castDm_eq h1
  obtain ⟨r, e, h⟩ := bindO_some h2
  refine ⟨_, _, h, fun k' => ?_⟩
  show (castDm (.sl 37 (.pair (.int .i64) (.pair (.int .i64) .unit))) .imm (⟨(.sl 37 (.pair (.int .i64) (.pair (.int .i64) .unit))), .imm, x0⟩ : Dy) fun x0 => castDm (.int .i64) .imm (⟨(.int .i64), .imm, x1⟩ : Dy) fun x1 => bindO (slices_ContainsFunc_Simpl_Op_impl_Op__impl_depths_c1 N x0 x1) fun r => k' [⟨.bool, .imm, r⟩] []) = _
  simp only [castDm_self]
  rw [e]
  rfl
noncomputable def math_bits_Mul32.con (N : Nat) : Con := { modes := [.v, .v], ptrs := [false, false], fn := fun ds k => match ds with | [d0, d1] => castDm (.int .u32) .imm d0 fun x0 => castDm (.int .u32) .imm d1 fun x1 => bindO (math_bits_Mul32 N x0 x1) fun r => k [⟨(.int .u32), .imm, r.1⟩, ⟨(.int .u32), .imm, r.2⟩] [] | _ => none }
noncomputable def math_bits_Mul32.cfg (N : Nat) : Cfg := { ty := tys, keep := [], flt := [], elm := [(22, (.own .imm)), (24, (.own .imm)), (26, (.own .imm))], live := [], ord := [], con := [], loops := [], joins := [] }
theorem math_bits_Mul32.cons (N : Nat) : ConsOk Try.prog (math_bits_Mul32.cfg N).con := consOk_nil
theorem math_bits_Mul32.ls (N : Nat) : LoopsOk Try.prog (math_bits_Mul32.cfg N) (fnBody Try.f29) := loopsL (l := []) (by kernel_rfl) trivial
theorem math_bits_Mul32.b (N : Nat) (x0 : den (.int .u32)) (x1 : den (.int .u32)) : body (math_bits_Mul32.cfg N) N Try.f29 [.one, .one] [.v, .v] [(false, .imm), (false, .imm)] [⟨(.int .u32), .imm, x0⟩, ⟨(.int .u32), .imm, x1⟩] (fun r i => some (r, i)) = bindO (math_bits_Mul32 N x0 x1) fun r => some ([⟨(.int .u32), .imm, r.1⟩, ⟨(.int .u32), .imm, r.2⟩], []) := by
  show _ = bindF _ _
  conv => rhs; simp only [math_bits_Mul32, bindF_ifB, bindF_bindO, bindF_pure, bindF_none, bindF_onSum]
  kernel_rfl
theorem math_bits_Mul32.ok (N : Nat) : ConOk Try.prog 29 [.one, .one] (math_bits_Mul32.con N) := by
  refine conOk_mk (g := math_bits_Mul32.cfg N) (N := N) (res := [(false, .imm), (false, .imm)]) tys_ok (math_bits_Mul32.cons N) mixed Try.func29 (math_bits_Mul32.ls N) rfl rfl ?_
  intro ds R k y h
  cases ds with
  | nil => exact none_some h
  | cons d0 ds =>
  cases ds with
  | nil => exact none_some h
  | cons d1 ds =>
  cases ds with
  | cons _ _ => exact none_some h
  | nil =>
  have h0 : (castDm (.int .u32) .imm d0 fun x0 => castDm (.int .u32) .imm d1 fun x1 => bindO (math_bits_Mul32 N x0 x1) fun r => k [⟨(.int .u32), .imm, r.1⟩, ⟨(.int .u32), .imm, r.2⟩] []) = some y := h
  clear h
  obtain ⟨x0, rfl, h1⟩ := castDm_eq h0
  obtain ⟨x1, rfl, h2⟩ := castDm_eq h1
  exact con_fin (math_bits_Mul32.b N x0 x1) h2
theorem math_bits_Mul32.det (N : Nat) : ConDet (math_bits_Mul32.con N) := by
  intro ds R k y h
  cases ds with
  | nil => exact none_some h
  | cons d0 ds =>
  cases ds with
  | nil => exact none_some h
  | cons d1 ds =>
  cases ds with
  | cons _ _ => exact none_some h
  | nil =>
  have h0 : (castDm (.int .u32) .imm d0 fun x0 => castDm (.int .u32) .imm d1 fun x1 => bindO (math_bits_Mul32 N x0 x1) fun r => k [⟨(.int .u32), .imm, r.1⟩, ⟨(.int .u32), .imm, r.2⟩] []) = some y := h
  clear h
  obtain ⟨x0, rfl, h1⟩ := castDm_eq h0
  obtain ⟨x1, rfl, h2⟩ := castDm_eq h1
  obtain ⟨r, e, h⟩ := bindO_some h2
  refine ⟨_, _, h, fun k' => ?_⟩
  show (castDm (.int .u32) .imm (⟨(.int .u32), .imm, x0⟩ : Dy) fun x0 => castDm (.int .u32) .imm (⟨(.int .u32), .imm, x1⟩ : Dy) fun x1 => bindO (math_bits_Mul32 N x0 x1) fun r => k' [⟨(.int .u32), .imm, r.1⟩, ⟨(.int .u32), .imm, r.2⟩] []) = _
  simp only [castDm_self]
  rw [e]
  rfl
noncomputable def math_bits_Mul64.con (N : Nat) : Con := { modes := [.v, .v], ptrs := [false, false], fn := fun ds k => match ds with | [d0, d1] => castDm (.int .u64) .imm d0 fun x0 => castDm (.int .u64) .imm d1 fun x1 => bindO (math_bits_Mul64 N x0 x1) fun r => k [⟨(.int .u64), .imm, r.1⟩, ⟨(.int .u64), .imm, r.2⟩] [] | _ => none }
noncomputable def math_bits_Mul64.cfg (N : Nat) : Cfg := { ty := tys, keep := [], flt := [], elm := [(22, (.own .imm)), (24, (.own .imm)), (26, (.own .imm))], live := [], ord := [], con := [], loops := [], joins := [] }
theorem math_bits_Mul64.cons (N : Nat) : ConsOk Try.prog (math_bits_Mul64.cfg N).con := consOk_nil
theorem math_bits_Mul64.ls (N : Nat) : LoopsOk Try.prog (math_bits_Mul64.cfg N) (fnBody Try.f30) := loopsL (l := []) (by kernel_rfl) trivial
theorem math_bits_Mul64.b (N : Nat) (x0 : den (.int .u64)) (x1 : den (.int .u64)) : body (math_bits_Mul64.cfg N) N Try.f30 [.one, .one] [.v, .v] [(false, .imm), (false, .imm)] [⟨(.int .u64), .imm, x0⟩, ⟨(.int .u64), .imm, x1⟩] (fun r i => some (r, i)) = bindO (math_bits_Mul64 N x0 x1) fun r => some ([⟨(.int .u64), .imm, r.1⟩, ⟨(.int .u64), .imm, r.2⟩], []) := by
  show _ = bindF _ _
  conv => rhs; simp only [math_bits_Mul64, bindF_ifB, bindF_bindO, bindF_pure, bindF_none, bindF_onSum]
  kernel_rfl
theorem math_bits_Mul64.ok (N : Nat) : ConOk Try.prog 30 [.one, .one] (math_bits_Mul64.con N) := by
  refine conOk_mk (g := math_bits_Mul64.cfg N) (N := N) (res := [(false, .imm), (false, .imm)]) tys_ok (math_bits_Mul64.cons N) mixed Try.func30 (math_bits_Mul64.ls N) rfl rfl ?_
  intro ds R k y h
  cases ds with
  | nil => exact none_some h
  | cons d0 ds =>
  cases ds with
  | nil => exact none_some h
  | cons d1 ds =>
  cases ds with
  | cons _ _ => exact none_some h
  | nil =>
  have h0 : (castDm (.int .u64) .imm d0 fun x0 => castDm (.int .u64) .imm d1 fun x1 => bindO (math_bits_Mul64 N x0 x1) fun r => k [⟨(.int .u64), .imm, r.1⟩, ⟨(.int .u64), .imm, r.2⟩] []) = some y := h
  clear h
  obtain ⟨x0, rfl, h1⟩ := castDm_eq h0
  obtain ⟨x1, rfl, h2⟩ := castDm_eq h1
  exact con_fin (math_bits_Mul64.b N x0 x1) h2
theorem math_bits_Mul64.det (N : Nat) : ConDet (math_bits_Mul64.con N) := by
  intro ds R k y h
  cases ds with
  | nil => exact none_some h
  | cons d0 ds =>
  cases ds with
  | nil => exact none_some h
  | cons d1 ds =>
  cases ds with
  | cons _ _ => exact none_some h
  | nil =>
  have h0 : (castDm (.int .u64) .imm d0 fun x0 => castDm (.int .u64) .imm d1 fun x1 => bindO (math_bits_Mul64 N x0 x1) fun r => k [⟨(.int .u64), .imm, r.1⟩, ⟨(.int .u64), .imm, r.2⟩] []) = some y := h
  clear h
  obtain ⟨x0, rfl, h1⟩ := castDm_eq h0
  obtain ⟨x1, rfl, h2⟩ := castDm_eq h1
  obtain ⟨r, e, h⟩ := bindO_some h2
  refine ⟨_, _, h, fun k' => ?_⟩
  show (castDm (.int .u64) .imm (⟨(.int .u64), .imm, x0⟩ : Dy) fun x0 => castDm (.int .u64) .imm (⟨(.int .u64), .imm, x1⟩ : Dy) fun x1 => bindO (math_bits_Mul64 N x0 x1) fun r => k' [⟨(.int .u64), .imm, r.1⟩, ⟨(.int .u64), .imm, r.2⟩] []) = _
  simp only [castDm_self]
  rw [e]
  rfl
noncomputable def math_bits_Mul.con (N : Nat) : Con := { modes := [.v, .v], ptrs := [false, false], fn := fun ds k => match ds with | [d0, d1] => castDm (.int .u64) .imm d0 fun x0 => castDm (.int .u64) .imm d1 fun x1 => bindO (math_bits_Mul N x0 x1) fun r => k [⟨(.int .u64), .imm, r.1⟩, ⟨(.int .u64), .imm, r.2⟩] [] | _ => none }
noncomputable def math_bits_Mul.cfg (N : Nat) : Cfg := { ty := tys, keep := [15, 25], flt := [], elm := [(22, (.own .imm)), (24, (.own .imm)), (26, (.own .imm))], live := [], ord := [], con := [((29, [.one, .one]), math_bits_Mul32.con N), ((30, [.one, .one]), math_bits_Mul64.con N)], loops := [], joins := [] }
theorem math_bits_Mul.cons (N : Nat) : ConsOk Try.prog (math_bits_Mul.cfg N).con := (consOk_cons (hb29) (math_bits_Mul32.ok N) (math_bits_Mul32.det N) (consOk_cons (hb30) (math_bits_Mul64.ok N) (math_bits_Mul64.det N) consOk_nil))
theorem math_bits_Mul.ls (N : Nat) : LoopsOk Try.prog (math_bits_Mul.cfg N) (fnBody Try.f28) := loopsL (l := []) (by kernel_rfl) trivial
theorem math_bits_Mul.b (N : Nat) (x0 : den (.int .u64)) (x1 : den (.int .u64)) : body (math_bits_Mul.cfg N) N Try.f28 [.one, .one] [.v, .v] [(false, .imm), (false, .imm)] [⟨(.int .u64), .imm, x0⟩, ⟨(.int .u64), .imm, x1⟩] (fun r i => some (r, i)) = bindO (math_bits_Mul N x0 x1) fun r => some ([⟨(.int .u64), .imm, r.1⟩, ⟨(.int .u64), .imm, r.2⟩], []) := by
  show _ = bindF _ _
  conv => rhs; simp only [math_bits_Mul, bindF_ifB, bindF_bindO, bindF_pure, bindF_none, bindF_onSum]
  kernel_rfl
theorem math_bits_Mul.ok (N : Nat) : ConOk Try.prog 28 [.one, .one] (math_bits_Mul.con N) := by
  refine conOk_mk (g := math_bits_Mul.cfg N) (N := N) (res := [(false, .imm), (false, .imm)]) tys_ok (math_bits_Mul.cons N) mixed Try.func28 (math_bits_Mul.ls N) rfl rfl ?_
  intro ds R k y h
  cases ds with
  | nil => exact none_some h
  | cons d0 ds =>
  cases ds with
  | nil => exact none_some h
  | cons d1 ds =>
  cases ds with
  | cons _ _ => exact none_some h
  | nil =>
  have h0 : (castDm (.int .u64) .imm d0 fun x0 => castDm (.int .u64) .imm d1 fun x1 => bindO (math_bits_Mul N x0 x1) fun r => k [⟨(.int .u64), .imm, r.1⟩, ⟨(.int .u64), .imm, r.2⟩] []) = some y := h
  clear h
  obtain ⟨x0, rfl, h1⟩ := castDm_eq h0
  obtain ⟨x1, rfl, h2⟩ := castDm_eq h1
  exact con_fin (math_bits_Mul.b N x0 x1) h2
theorem math_bits_Mul.det (N : Nat) : ConDet (math_bits_Mul.con N) := by
  intro ds R k y h
  cases ds with
  | nil => exact none_some h
  | cons d0 ds =>
  cases ds with
  | nil => exact none_some h
  | cons d1 ds =>
  cases ds with
  | cons _ _ => exact none_some h
  | nil =>
  have h0 : (castDm (.int .u64) .imm d0 fun x0 => castDm (.int .u64) .imm d1 fun x1 => bindO (math_bits_Mul N x0 x1) fun r => k [⟨(.int .u64), .imm, r.1⟩, ⟨(.int .u64), .imm, r.2⟩] []) = some y := h
  clear h
  obtain ⟨x0, rfl, h1⟩ := castDm_eq h0
  obtain ⟨x1, rfl, h2⟩ := castDm_eq h1
  obtain ⟨r, e, h⟩ := bindO_some h2
  refine ⟨_, _, h, fun k' => ?_⟩
  show (castDm (.int .u64) .imm (⟨(.int .u64), .imm, x0⟩ : Dy) fun x0 => castDm (.int .u64) .imm (⟨(.int .u64), .imm, x1⟩ : Dy) fun x1 => bindO (math_bits_Mul N x0 x1) fun r => k' [⟨(.int .u64), .imm, r.1⟩, ⟨(.int .u64), .imm, r.2⟩] []) = _
  simp only [castDm_self]
  rw [e]
  rfl
def slices_Repeat_Sint64_int64.sk8 : Skel := ⟨[.dead, .dead, .dead, .dead, .dead, .dead, .dead, .ov 50 [], .pv (.int .i64), .dead, .dead, .dead, .dead, .dead, .dead, .dead, .dead, .dead, .dead, .dead, .dead, .dead, .dead, .dead, .dead, .dead, .dead, .dead, .dead, .dead, .dead, .dead, .dead, .dead, .dead, .dead, .dead, .dead, .dead, .dead, .dead, .dead, .dead, .dead, .dead, .dead, .dead, .dead], [⟨50, (.sl 2 (.int .i64)), (.own .imm), false, false⟩]⟩
def slices_Repeat_Sint64_int64.xs8 : List XS := [⟨.exit 0, [7], ⟨[.dead, .dead, .dead, .dead, .dead, .dead, .dead, .ov 50 [], .dead, .dead, .dead, .dead, .dead, .dead, .dead, .dead, .dead, .dead, .dead, .dead, .dead, .dead, .dead, .dead, .dead, .dead, .dead, .dead, .dead, .dead, .dead, .dead, .dead, .dead, .dead, .dead, .dead, .dead, .dead, .dead, .dead, .dead, .dead, .dead, .dead, .dead, .dead, .dead], [⟨50, (.sl 2 (.int .i64)), (.own .imm), false, false⟩]⟩⟩]
noncomputable def slices_Repeat_Sint64_int64.con (N : Nat) : Con := { modes := [.v, .v], ptrs := [false], fn := fun ds k => match ds with | [d0, d1] => castDm (.sl 2 (.int .i64)) .imm d0 fun x0 => castDm (.int .i64) .imm d1 fun x1 => bindO (slices_Repeat_Sint64_int64 N x0 x1) fun r => k [⟨(.sl 2 (.int .i64)), (.own .imm), r⟩] [] | _ => none }
noncomputable def slices_Repeat_Sint64_int64.cfg (N : Nat) : Cfg := { ty := tys, keep := [18], flt := [], elm := [(22, (.own .imm)), (24, (.own .imm)), (26, (.own .imm))], live := [(8, [7, 8])], ord := [(9, [0, 1, 2, 3, 4, 5, 6, 7, 8, 9])], con := [((28, [.one, .one]), math_bits_Mul.con N)], loops := [(8, loopCon N slices_Repeat_Sint64_int64.sk8 slices_Repeat_Sint64_int64.xs8 (fun {R} => slices_Repeat_Sint64_int64.l8 (R := R) N))], joins := [] }
theorem slices_Repeat_Sint64_int64.cons (N : Nat) : ConsOk Try.prog (slices_Repeat_Sint64_int64.cfg N).con := (consOk_cons (hb28) (math_bits_Mul.ok N) (math_bits_Mul.det N) consOk_nil)
theorem slices_Repeat_Sint64_int64.h8 {R : Type} (N : Nat) (d : slices_Repeat_Sint64_int64.sk8.D) (kn : slices_Repeat_Sint64_int64.sk8.D → Option R) (kx : XD slices_Repeat_Sint64_int64.xs8 → Option R) : roundK (slices_Repeat_Sint64_int64.cfg N) N (nthLoop (fnBody Try.f24) 0) slices_Repeat_Sint64_int64.sk8 slices_Repeat_Sint64_int64.xs8 d kn kx = slices_Repeat_Sint64_int64.l8 N d kn kx := by kernel_rfl
theorem slices_Repeat_Sint64_int64.i8 (N : Nat) : LoopsOk Try.prog (slices_Repeat_Sint64_int64.cfg N) (nthLoop (fnBody Try.f24) 0) := loopsL (l := []) (by kernel_rfl) trivial
theorem slices_Repeat_Sint64_int64.o8 (N : Nat) : LoopOk Try.prog (nthLoop (fnBody Try.f24) 0) (loopCon N slices_Repeat_Sint64_int64.sk8 slices_Repeat_Sint64_int64.xs8 (fun {R} => slices_Repeat_Sint64_int64.l8 (R := R) N)) := loop_ok (g := slices_Repeat_Sint64_int64.cfg N) tys_ok (slices_Repeat_Sint64_int64.cons N) mixed (slices_Repeat_Sint64_int64.i8 N) (fun d kn kx => slices_Repeat_Sint64_int64.h8 N d kn kx)
theorem slices_Repeat_Sint64_int64.ls (N : Nat) : LoopsOk Try.prog (slices_Repeat_Sint64_int64.cfg N) (fnBody Try.f24) := loopsL (l := [nthLoop (fnBody Try.f24) 0]) (by kernel_rfl) ⟨loopOne (L0 := loopCon N slices_Repeat_Sint64_int64.sk8 slices_Repeat_Sint64_int64.xs8 (fun {R} => slices_Repeat_Sint64_int64.l8 (R := R) N)) (id := 8) (by kernel_rfl) (by kernel_rfl) (slices_Repeat_Sint64_int64.o8 N), trivial⟩
theorem slices_Repeat_Sint64_int64.q8 {R R' : Type} {N n : Nat} {d} {k} {g : R → Option R'} : bindF (loopP (slices_Repeat_Sint64_int64.l8 N) n d k) g = loopP (slices_Repeat_Sint64_int64.l8 N) n d fun e => bindF (k e) g := bindF_loopP (fun d kn kx => by simp only [slices_Repeat_Sint64_int64.l8, bindF_ifB, bindF_bindO, bindF_pure, bindF_none, bindF_onSum]) n d k
theorem slices_Repeat_Sint64_int64.b (N : Nat) (x0 : den (.sl 2 (.int .i64))) (x1 : den (.int .i64)) : body (slices_Repeat_Sint64_int64.cfg N) N Try.f24 [.one, .one] [.v, .v] [(false, (.own .imm))] [⟨(.sl 2 (.int .i64)), .imm, x0⟩, ⟨(.int .i64), .imm, x1⟩] (fun r i => some (r, i)) = bindO (slices_Repeat_Sint64_int64 N x0 x1) fun r => some ([⟨(.sl 2 (.int .i64)), (.own .imm), r⟩], []) := by
  show _ = bindF _ _
  conv => rhs; simp only [slices_Repeat_Sint64_int64, bindF_ifB, bindF_bindO, bindF_pure, bindF_none, bindF_onSum, slices_Repeat_Sint64_int64.q8]
  kernel_rfl
theorem slices_Repeat_Sint64_int64.ok (N : Nat) : ConOk Try.prog 24 [.one, .one] (slices_Repeat_Sint64_int64.con N) := by
  refine conOk_mk (g := slices_Repeat_Sint64_int64.cfg N) (N := N) (res := [(false, (.own .imm))]) tys_ok (slices_Repeat_Sint64_int64.cons N) mixed Try.func24 (slices_Repeat_Sint64_int64.ls N) rfl rfl ?_
  intro ds R k y h
  cases ds with
  | nil => exact none_some h
  | cons d0 ds =>
  cases ds with
  | nil => exact none_some h
  | cons d1 ds =>
  cases ds with
  | cons _ _ => exact none_some h
  | nil =>
  have h0 : (castDm (.sl 2 (.int .i64)) .imm d0 fun x0 => castDm (.int .i64) .imm d1 fun x1 => bindO (slices_Repeat_Sint64_int64 N x0 x1) fun r => k [⟨(.sl 2 (.int .i64)), (.own .imm), r⟩] []) = some y := h
  clear h
  obtain ⟨x0, rfl, h1⟩ := castDm_eq h0
  obtain ⟨x1, rfl, h2⟩ := castDm_eq h1
  exact con_fin (slices_Repeat_Sint64_int64.b N x0 x1) h2
theorem slices_Repeat_Sint64_int64.det (N : Nat) : ConDet (slices_Repeat_Sint64_int64.con N) := by
  intro ds R k y h
  cases ds with
  | nil => exact none_some h
  | cons d0 ds =>
  cases ds with
  | nil => exact none_some h
  | cons d1 ds =>
  cases ds with
  | cons _ _ => exact none_some h
  | nil =>
  have h0 : (castDm (.sl 2 (.int .i64)) .imm d0 fun x0 => castDm (.int .i64) .imm d1 fun x1 => bindO (slices_Repeat_Sint64_int64 N x0 x1) fun r => k [⟨(.sl 2 (.int .i64)), (.own .imm), r⟩] []) = some y := h
  clear h
  obtain ⟨x0, rfl, h1⟩ := castDm_eq h0
  obtain ⟨x1, rfl, h2⟩ := castDm_eq h1
  obtain ⟨r, e, h⟩ := bindO_some h2
  refine ⟨_, _, h, fun k' => ?_⟩
  show (castDm (.sl 2 (.int .i64)) .imm (⟨(.sl 2 (.int .i64)), .imm, x0⟩ : Dy) fun x0 => castDm (.int .i64) .imm (⟨(.int .i64), .imm, x1⟩ : Dy) fun x1 => bindO (slices_Repeat_Sint64_int64 N x0 x1) fun r => k' [⟨(.sl 2 (.int .i64)), (.own .imm), r⟩] []) = _
  simp only [castDm_self]
  rw [e]
  rfl
noncomputable def impl_takes.con (N : Nat) : Con := { modes := [.v], ptrs := [false, false], fn := fun ds k => match ds with | [d0] => castDm (.int .i64) .imm d0 fun x0 => bindO (impl_takes N x0) fun r => k [⟨(.int .i64), .imm, r.1⟩, ⟨(.int .i64), .imm, r.2⟩] [] | _ => none }
noncomputable def impl_takes.cfg (N : Nat) : Cfg := { ty := tys, keep := [], flt := [], elm := [(22, (.own .imm)), (24, (.own .imm)), (26, (.own .imm))], live := [], ord := [], con := [], loops := [], joins := [] }
theorem impl_takes.cons (N : Nat) : ConsOk Try.prog (impl_takes.cfg N).con := consOk_nil
theorem impl_takes.ls (N : Nat) : LoopsOk Try.prog (impl_takes.cfg N) (fnBody Try.f25) := loopsL (l := []) (by kernel_rfl) trivial
theorem impl_takes.b (N : Nat) (x0 : den (.int .i64)) : body (impl_takes.cfg N) N Try.f25 [.one] [.v] [(false, .imm), (false, .imm)] [⟨(.int .i64), .imm, x0⟩] (fun r i => some (r, i)) = bindO (impl_takes N x0) fun r => some ([⟨(.int .i64), .imm, r.1⟩, ⟨(.int .i64), .imm, r.2⟩], []) := by
  show _ = bindF _ _
  conv => rhs; simp only [impl_takes, bindF_ifB, bindF_bindO, bindF_pure, bindF_none, bindF_onSum]
  kernel_rfl
theorem impl_takes.ok (N : Nat) : ConOk Try.prog 25 [.one] (impl_takes.con N) := by
  refine conOk_mk (g := impl_takes.cfg N) (N := N) (res := [(false, .imm), (false, .imm)]) tys_ok (impl_takes.cons N) mixed Try.func25 (impl_takes.ls N) rfl rfl ?_
  intro ds R k y h
  cases ds with
  | nil => exact none_some h
  | cons d0 ds =>
  cases ds with
  | cons _ _ => exact none_some h
  | nil =>
  have h0 : (castDm (.int .i64) .imm d0 fun x0 => bindO (impl_takes N x0) fun r => k [⟨(.int .i64), .imm, r.1⟩, ⟨(.int .i64), .imm, r.2⟩] []) = some y := h
  clear h
  obtain ⟨x0, rfl, h1⟩ := castDm_eq h0
  exact con_fin (impl_takes.b N x0) h1
theorem impl_takes.det (N : Nat) : ConDet (impl_takes.con N) := by
  intro ds R k y h
  cases ds with
  | nil => exact none_some h
  | cons d0 ds =>
  cases ds with
  | cons _ _ => exact none_some h
  | nil =>
  have h0 : (castDm (.int .i64) .imm d0 fun x0 => bindO (impl_takes N x0) fun r => k [⟨(.int .i64), .imm, r.1⟩, ⟨(.int .i64), .imm, r.2⟩] []) = some y := h
  clear h
  obtain ⟨x0, rfl, h1⟩ := castDm_eq h0
  obtain ⟨r, e, h⟩ := bindO_some h1
  refine ⟨_, _, h, fun k' => ?_⟩
  show (castDm (.int .i64) .imm (⟨(.int .i64), .imm, x0⟩ : Dy) fun x0 => bindO (impl_takes N x0) fun r => k' [⟨(.int .i64), .imm, r.1⟩, ⟨(.int .i64), .imm, r.2⟩] []) = _
  simp only [castDm_self]
  rw [e]
  rfl
def impl_depths.sk7 : Skel := ⟨[.pv (.sl 37 (.pair (.int .i64) (.pair (.int .i64) .unit))), .dead, .dead, .dead, .ptr 50 [], .ov 51 [], .ov 52 [], .dead, .dead, .dead, .dead, .dead, .dead, .dead, .dead, .dead, .dead, .dead, .dead, .dead, .dead, .dead, .dead, .dead, .dead, .dead, .dead, .dead, .dead, .dead, .dead, .dead, .dead, .dead, .dead, .dead, .dead, .dead, .dead, .dead, .dead, .dead, .dead, .dead, .dead, .dead, .dead, .dead, .dead, .dead, .dead, .dead, .dead, .dead, .dead, .dead, .dead, .dead, .dead, .dead, .dead, .dead, .dead, .dead, .dead, .dead, .dead, .dead, .dead, .dead, .dead, .dead, .dead, .dead, .dead, .dead, .dead, .dead, .dead, .dead, .dead, .dead, .dead, .dead, .dead, .dead, .dead, .dead, .dead, .dead, .dead, .dead, .dead, .dead, .dead, .dead, .dead, .dead, .dead, .dead, .dead, .dead, .dead, .dead, .dead, .dead, .dead, .dead, .dead, .dead, .dead, .dead, .dead, .dead, .dead, .dead, .dead, .dead, .dead, .dead, .dead, .dead, .dead, .dead, .dead, .dead, .dead, .dead], [⟨50, (.int .i64), .imm, true, false⟩, ⟨51, (.sl 2 (.int .i64)), (.own .imm), false, false⟩, ⟨52, (.sl 2 (.int .i64)), (.own .imm), false, false⟩]⟩
def impl_depths.xs7 : List XS := [⟨.exit 0, [5], ⟨[.dead, .dead, .dead, .dead, .dead, .ov 50 [], .dead, .dead, .dead, .dead, .dead, .dead, .dead, .dead, .dead, .dead, .dead, .dead, .dead, .dead, .dead, .dead, .dead, .dead, .dead, .dead, .dead, .dead, .dead, .dead, .dead, .dead, .dead, .dead, .dead, .dead, .dead, .dead, .dead, .dead, .dead, .dead, .dead, .dead, .dead, .dead, .dead, .dead, .dead, .dead, .dead, .dead, .dead, .dead, .dead, .dead, .dead, .dead, .dead, .dead, .dead, .dead, .dead, .dead, .dead, .dead, .dead, .dead, .dead, .dead, .dead, .dead, .dead, .dead, .dead, .dead, .dead, .dead, .dead, .dead, .dead, .dead, .dead, .dead, .dead, .dead, .dead, .dead, .dead, .dead, .dead, .dead, .dead, .dead, .dead, .dead, .dead, .dead, .dead, .dead, .dead, .dead, .dead, .dead, .dead, .dead, .dead, .dead, .dead, .dead, .dead, .dead, .dead, .dead, .dead, .dead, .dead, .dead, .dead, .dead, .dead, .dead, .dead, .dead, .dead, .dead, .dead, .dead], [⟨50, (.sl 2 (.int .i64)), (.own .imm), false, false⟩]⟩⟩, ⟨.ret, [2, 3], ⟨[.dead, .dead, .ov 50 [], .pv .bool, .dead, .dead, .dead, .dead, .dead, .dead, .dead, .dead, .dead, .dead, .dead, .dead, .dead, .dead, .dead, .dead, .dead, .dead, .dead, .dead, .dead, .dead, .dead, .dead, .dead, .dead, .dead, .dead, .dead, .dead, .dead, .dead, .dead, .dead, .dead, .dead, .dead, .dead, .dead, .dead, .dead, .dead, .dead, .dead, .dead, .dead, .dead, .dead, .dead, .dead, .dead, .dead, .dead, .dead, .dead, .dead, .dead, .dead, .dead, .dead, .dead, .dead, .dead, .dead, .dead, .dead, .dead, .dead, .dead, .dead, .dead, .dead, .dead, .dead, .dead, .dead, .dead, .dead, .dead, .dead, .dead, .dead, .dead, .dead, .dead, .dead, .dead, .dead, .dead, .dead, .dead, .dead, .dead, .dead, .dead, .dead, .dead, .dead, .dead, .dead, .dead, .dead, .dead, .dead, .dead, .dead, .dead, .dead, .dead, .dead, .dead, .dead, .dead, .dead, .dead, .dead, .dead, .dead, .dead, .dead, .dead, .dead, .dead, .dead], [⟨50, (.sl 2 (.int .i64)), (.own .imm), false, false⟩]⟩⟩]
def impl_depths.sk24 : Skel := ⟨[.pv (.sl 37 (.pair (.int .i64) (.pair (.int .i64) .unit))), .dead, .dead, .dead, .ptr 50 [], .ov 51 [], .ov 52 [], .dead, .dead, .dead, .pv (.int .i64), .pv (.int .i64), .dead, .dead, .dead, .dead, .dead, .dead, .dead, .dead, .dead, .dead, .dead, .dead, .dead, .dead, .dead, .dead, .dead, .dead, .dead, .dead, .dead, .dead, .dead, .dead, .dead, .dead, .dead, .dead, .dead, .dead, .dead, .dead, .dead, .dead, .dead, .dead, .dead, .dead, .dead, .dead, .dead, .dead, .dead, .dead, .dead, .dead, .dead, .dead, .dead, .dead, .dead, .dead, .dead, .dead, .dead, .dead, .dead, .dead, .dead, .dead, .dead, .dead, .dead, .dead, .dead, .dead, .dead, .dead, .dead, .dead, .dead, .dead, .dead, .dead, .dead, .dead, .dead, .dead, .dead, .dead, .dead, .dead, .dead, .dead, .dead, .dead, .dead, .ov 53 [], .pv (.int .i64), .pv (.int .i64), .dead, .dead, .dead, .dead, .dead, .dead, .dead, .dead, .dead, .dead, .dead, .dead, .dead, .dead, .dead, .dead, .dead, .dead, .dead, .dead, .dead, .dead, .dead, .dead, .dead, .dead], [⟨50, (.int .i64), .imm, true, false⟩, ⟨51, (.sl 2 (.int .i64)), (.own .imm), false, false⟩, ⟨52, (.sl 2 (.int .i64)), (.own .imm), false, false⟩, ⟨53, (.sl 2 (.int .i64)), (.own .imm), false, false⟩]⟩
def impl_depths.xs24 : List XS := [⟨.exit 2, [0, 4, 5, 6, 72, 73, 74, 75, 90, 91, 92], ⟨[.pv (.sl 37 (.pair (.int .i64) (.pair (.int .i64) .unit))), .dead, .dead, .dead, .ptr 50 [], .ov 51 [], .ov 52 [], .dead, .dead, .dead, .dead, .dead, .dead, .dead, .dead, .dead, .dead, .dead, .dead, .dead, .dead, .dead, .dead, .dead, .dead, .dead, .dead, .dead, .dead, .dead, .dead, .dead, .dead, .dead, .dead, .dead, .dead, .dead, .dead, .dead, .dead, .dead, .dead, .dead, .dead, .dead, .dead, .dead, .dead, .dead, .dead, .dead, .dead, .dead, .dead, .dead, .dead, .dead, .dead, .dead, .dead, .dead, .dead, .dead, .dead, .dead, .dead, .dead, .dead, .dead, .dead, .dead, .dead, .dead, .dead, .dead, .dead, .dead, .dead, .dead, .dead, .dead, .dead, .dead, .dead, .dead, .dead, .dead, .dead, .dead, .dead, .dead, .dead, .dead, .dead, .dead, .dead, .dead, .dead, .dead, .dead, .dead, .dead, .dead, .dead, .dead, .dead, .dead, .dead, .dead, .dead, .dead, .dead, .dead, .dead, .dead, .dead, .dead, .dead, .dead, .dead, .dead, .dead, .dead, .dead, .dead, .dead, .dead], [⟨50, (.int .i64), .imm, true, false⟩, ⟨51, (.sl 2 (.int .i64)), (.own .imm), false, false⟩, ⟨52, (.sl 2 (.int .i64)), (.own .imm), false, false⟩]⟩⟩, ⟨.ret, [2, 3], ⟨[.dead, .dead, .ov 50 [], .pv .bool, .dead, .dead, .dead, .dead, .dead, .dead, .dead, .dead, .dead, .dead, .dead, .dead, .dead, .dead, .dead, .dead, .dead, .dead, .dead, .dead, .dead, .dead, .dead, .dead, .dead, .dead, .dead, .dead, .dead, .dead, .dead, .dead, .dead, .dead, .dead, .dead, .dead, .dead, .dead, .dead, .dead, .dead, .dead, .dead, .dead, .dead, .dead, .dead, .dead, .dead, .dead, .dead, .dead, .dead, .dead, .dead, .dead, .dead, .dead, .dead, .dead, .dead, .dead, .dead, .dead, .dead, .dead, .dead, .dead, .dead, .dead, .dead, .dead, .dead, .dead, .dead, .dead, .dead, .dead, .dead, .dead, .dead, .dead, .dead, .dead, .dead, .dead, .dead, .dead, .dead, .dead, .dead, .dead, .dead, .dead, .dead, .dead, .dead, .dead, .dead, .dead, .dead, .dead, .dead, .dead, .dead, .dead, .dead, .dead, .dead, .dead, .dead, .dead, .dead, .dead, .dead, .dead, .dead, .dead, .dead, .dead, .dead, .dead, .dead], [⟨50, (.sl 2 (.int .i64)), (.own .imm), false, false⟩]⟩⟩]
noncomputable def impl_depths.con (N : Nat) : Con := { modes := [.v], ptrs := [false, false], fn := fun ds k => match ds with | [d0] => castDm (.sl 37 (.pair (.int .i64) (.pair (.int .i64) .unit))) .imm d0 fun x0 => bindO (impl_depths N x0) fun r => k [⟨(.sl 2 (.int .i64)), (.own .imm), r.1⟩, ⟨.bool, .imm, r.2⟩] [] | _ => none }
noncomputable def impl_depths.cfg (N : Nat) : Cfg := { ty := tys, keep := [16, 22, 27, 60], flt := [2], elm := [(22, (.own .imm)), (24, (.own .imm)), (26, (.own .imm))], live := [(24, [0, 4, 5, 6, 10, 11, 72, 73, 74, 75, 90, 91, 92, 99, 100, 101]), (7, [0, 4, 5, 6, 72, 73, 74, 75, 90, 91, 92])], ord := [], con := [((20, [.one]), impl_size_Simpl_Op.con N), ((21, [.one, .fn 22 1]), slices_ContainsFunc_Simpl_Op_impl_Op__impl_depths_c1.con N), ((24, [.one, .one]), slices_Repeat_Sint64_int64.con N), ((25, [.one]), impl_takes.con N)], loops := [(7, loopCon N impl_depths.sk7 impl_depths.xs7 (fun {R} => impl_depths.l7 (R := R) N)), (24, loopCon N impl_depths.sk24 impl_depths.xs24 (fun {R} => impl_depths.l24 (R := R) N))], joins := [(32, [⟨.normal, [0, 4, 5, 6, 10, 11, 72, 73, 74, 75, 90, 91, 92, 99, 100, 101], ⟨[.pv (.sl 37 (.pair (.int .i64) (.pair (.int .i64) .unit))), .dead, .dead, .dead, .ptr 50 [], .ov 51 [], .ov 52 [], .dead, .dead, .dead, .pv (.int .i64), .pv (.int .i64), .dead, .dead, .dead, .dead, .dead, .dead, .dead, .dead, .dead, .dead, .dead, .dead, .dead, .dead, .dead, .dead, .dead, .dead, .dead, .dead, .dead, .dead, .dead, .dead, .dead, .dead, .dead, .dead, .dead, .dead, .dead, .dead, .dead, .dead, .dead, .dead, .dead, .dead, .dead, .dead, .dead, .dead, .dead, .dead, .dead, .dead, .dead, .dead, .dead, .dead, .dead, .dead, .dead, .dead, .dead, .dead, .dead, .dead, .dead, .dead, .dead, .dead, .dead, .dead, .dead, .dead, .dead, .dead, .dead, .dead, .dead, .dead, .dead, .dead, .dead, .dead, .dead, .dead, .dead, .dead, .dead, .dead, .dead, .dead, .dead, .dead, .dead, .ov 53 [], .pv (.int .i64), .pv (.int .i64), .dead, .dead, .dead, .dead, .dead, .dead, .dead, .dead, .dead, .dead, .dead, .dead, .dead, .dead, .dead, .dead, .dead, .dead, .dead, .dead, .dead, .dead, .dead, .dead, .dead, .dead], [⟨50, (.int .i64), .imm, true, false⟩, ⟨51, (.sl 2 (.int .i64)), (.own .imm), false, false⟩, ⟨52, (.sl 2 (.int .i64)), (.own .imm), false, false⟩, ⟨53, (.sl 2 (.int .i64)), (.own .imm), false, false⟩]⟩⟩, ⟨.ret, [2, 3], ⟨[.dead, .dead, .ov 50 [], .pv .bool, .dead, .dead, .dead, .dead, .dead, .dead, .dead, .dead, .dead, .dead, .dead, .dead, .dead, .dead, .dead, .dead, .dead, .dead, .dead, .dead, .dead, .dead, .dead, .dead, .dead, .dead, .dead, .dead, .dead, .dead, .dead, .dead, .dead, .dead, .dead, .dead, .dead, .dead, .dead, .dead, .dead, .dead, .dead, .dead, .dead, .dead, .dead, .dead, .dead, .dead, .dead, .dead, .dead, .dead, .dead, .dead, .dead, .dead, .dead, .dead, .dead, .dead, .dead, .dead, .dead, .dead, .dead, .dead, .dead, .dead, .dead, .dead, .dead, .dead, .dead, .dead, .dead, .dead, .dead, .dead, .dead, .dead, .dead, .dead, .dead, .dead, .dead, .dead, .dead, .dead, .dead, .dead, .dead, .dead, .dead, .dead, .dead, .dead, .dead, .dead, .dead, .dead, .dead, .dead, .dead, .dead, .dead, .dead, .dead, .dead, .dead, .dead, .dead, .dead, .dead, .dead, .dead, .dead, .dead, .dead, .dead, .dead, .dead, .dead], [⟨50, (.sl 2 (.int .i64)), (.own .imm), false, false⟩]⟩⟩])] }
theorem impl_depths.cons (N : Nat) : ConsOk Try.prog (impl_depths.cfg N).con := (consOk_cons (hb20) (impl_size_Simpl_Op.ok N) (impl_size_Simpl_Op.det N) (consOk_cons (hb21) (slices_ContainsFunc_Simpl_Op_impl_Op__impl_depths_c1.ok N) (slices_ContainsFunc_Simpl_Op_impl_Op__impl_depths_c1.det N) (consOk_cons (hb24) (slices_Repeat_Sint64_int64.ok N) (slices_Repeat_Sint64_int64.det N) (consOk_cons (hb25) (impl_takes.ok N) (impl_takes.det N) consOk_nil))))
theorem impl_depths.h24 {R : Type} (N : Nat) (d : impl_depths.sk24.D) (kn : impl_depths.sk24.D → Option R) (kx : XD impl_depths.xs24 → Option R) : roundK (impl_depths.cfg N) N (nthLoop (fnBody Try.f16) 1) impl_depths.sk24 impl_depths.xs24 d kn kx = impl_depths.l24 N d kn kx := by kernel_rfl
theorem impl_depths.i24 (N : Nat) : LoopsOk Try.prog (impl_depths.cfg N) (nthLoop (fnBody Try.f16) 1) := loopsL (l := []) (by kernel_rfl) trivial
theorem impl_depths.o24 (N : Nat) : LoopOk Try.prog (nthLoop (fnBody Try.f16) 1) (loopCon N impl_depths.sk24 impl_depths.xs24 (fun {R} => impl_depths.l24 (R := R) N)) := loop_ok (g := impl_depths.cfg N) tys_ok (impl_depths.cons N) mixed (impl_depths.i24 N) (fun d kn kx => impl_depths.h24 N d kn kx)
theorem impl_depths.h7 {R : Type} (N : Nat) (d : impl_depths.sk7.D) (kn : impl_depths.sk7.D → Option R) (kx : XD impl_depths.xs7 → Option R) : roundK (impl_depths.cfg N) N (nthLoop (fnBody Try.f16) 0) impl_depths.sk7 impl_depths.xs7 d kn kx = impl_depths.l7 N d kn kx := by kernel_rfl
theorem impl_depths.i7 (N : Nat) : LoopsOk Try.prog (impl_depths.cfg N) (nthLoop (fnBody Try.f16) 0) := loopsL (l := [nthLoop (fnBody Try.f16) 1]) (by kernel_rfl) ⟨loopOne (L0 := loopCon N impl_depths.sk24 impl_depths.xs24 (fun {R} => impl_depths.l24 (R := R) N)) (id := 24) (by kernel_rfl) (by kernel_rfl) (impl_depths.o24 N), trivial⟩
theorem impl_depths.o7 (N : Nat) : LoopOk Try.prog (nthLoop (fnBody Try.f16) 0) (loopCon N impl_depths.sk7 impl_depths.xs7 (fun {R} => impl_depths.l7 (R := R) N)) := loop_ok (g := impl_depths.cfg N) tys_ok (impl_depths.cons N) mixed (impl_depths.i7 N) (fun d kn kx => impl_depths.h7 N d kn kx)
theorem impl_depths.ls (N : Nat) : LoopsOk Try.prog (impl_depths.cfg N) (fnBody Try.f16) := loopsL (l := [nthLoop (fnBody Try.f16) 0, nthLoop (fnBody Try.f16) 1]) (by kernel_rfl) ⟨loopOne (L0 := loopCon N impl_depths.sk7 impl_depths.xs7 (fun {R} => impl_depths.l7 (R := R) N)) (id := 7) (by kernel_rfl) (by kernel_rfl) (impl_depths.o7 N), ⟨loopOne (L0 := loopCon N impl_depths.sk24 impl_depths.xs24 (fun {R} => impl_depths.l24 (R := R) N)) (id := 24) (by kernel_rfl) (by kernel_rfl) (impl_depths.o24 N), trivial⟩⟩
theorem impl_depths.q24 {R R' : Type} {N n : Nat} {d} {k} {g : R → Option R'} : bindF (loopP (impl_depths.l24 N) n d k) g = loopP (impl_depths.l24 N) n d fun e => bindF (k e) g := bindF_loopP (fun d kn kx => by simp only [impl_depths.l24, bindF_ifB, bindF_bindO, bindF_pure, bindF_none, bindF_onSum]) n d k
theorem impl_depths.q7 {R R' : Type} {N n : Nat} {d} {k} {g : R → Option R'} : bindF (loopP (impl_depths.l7 N) n d k) g = loopP (impl_depths.l7 N) n d fun e => bindF (k e) g := bindF_loopP (fun d kn kx => by simp only [impl_depths.l7, bindF_ifB, bindF_bindO, bindF_pure, bindF_none, bindF_onSum, impl_depths.q24]) n d k
theorem impl_depths.b (N : Nat) (x0 : den (.sl 37 (.pair (.int .i64) (.pair (.int .i64) .unit)))) : body (impl_depths.cfg N) N Try.f16 [.one] [.v] [(false, (.own .imm)), (false, .imm)] [⟨(.sl 37 (.pair (.int .i64) (.pair (.int .i64) .unit))), .imm, x0⟩] (fun r i => some (r, i)) = bindO (impl_depths N x0) fun r => some ([⟨(.sl 2 (.int .i64)), (.own .imm), r.1⟩, ⟨.bool, .imm, r.2⟩], []) := by
  show _ = bindF _ _
  conv => rhs; simp only [impl_depths, bindF_ifB, bindF_bindO, bindF_pure, bindF_none, bindF_onSum, impl_depths.q7, impl_depths.q24]
  kernel_rfl
theorem impl_depths.ok (N : Nat) : ConOk Try.prog 16 [.one] (impl_depths.con N) := by
  refine conOk_mk (g := impl_depths.cfg N) (N := N) (res := [(false, (.own .imm)), (false, .imm)]) tys_ok (impl_depths.cons N) mixed Try.func16 (impl_depths.ls N) rfl rfl ?_
  intro ds R k y h
  cases ds with
  | nil => exact none_some h
  | cons d0 ds =>
  cases ds with
  | cons _ _ => exact none_some h
  | nil =>
  have h0 : (castDm (.sl 37 (.pair (.int .i64) (.pair (.int .i64) .unit))) .imm d0 fun x0 => bindO (impl_depths N x0) fun r => k [⟨(.sl 2 (.int .i64)), (.own .imm), r.1⟩, ⟨.bool, .imm, r.2⟩] []) = some y := h
  clear h
  obtain ⟨x0, rfl, h1⟩ := castDm_eq h0
  exact con_fin (impl_depths.b N x0) h1
theorem impl_depths.det (N : Nat) : ConDet (impl_depths.con N) := by
  intro ds R k y h
  cases ds with
  | nil => exact none_some h
  | cons d0 ds =>
  cases ds with
  | cons _ _ => exact none_some h
  | nil =>
  have h0 : (castDm (.sl 37 (.pair (.int .i64) (.pair (.int .i64) .unit))) .imm d0 fun x0 => bindO (impl_depths N x0) fun r => k [⟨(.sl 2 (.int .i64)), (.own .imm), r.1⟩, ⟨.bool, .imm, r.2⟩] []) = some y := h
  clear h
  obtain ⟨x0, rfl, h1⟩ := castDm_eq h0
  obtain ⟨r, e, h⟩ := bindO_some h1
  refine ⟨_, _, h, fun k' => ?_⟩
  show (castDm (.sl 37 (.pair (.int .i64) (.pair (.int .i64) .unit))) .imm (⟨(.sl 37 (.pair (.int .i64) (.pair (.int .i64) .unit))), .imm, x0⟩ : Dy) fun x0 => bindO (impl_depths N x0) fun r => k' [⟨(.sl 2 (.int .i64)), (.own .imm), r.1⟩, ⟨.bool, .imm, r.2⟩] []) = _
  simp only [castDm_self]
  rw [e]
  rfl
noncomputable def impl_CodeDepths.con (N : Nat) : Con := { modes := [.v], ptrs := [false], fn := fun ds k => match ds with | [d0] => castDm (.sl 37 (.pair (.int .i64) (.pair (.int .i64) .unit))) .imm d0 fun x0 => bindO (impl_CodeDepths N x0) fun r => k [⟨(.sl 2 (.int .i64)), (.own .imm), r⟩] [] | _ => none }
noncomputable def impl_CodeDepths.cfg (N : Nat) : Cfg := { ty := tys, keep := [7], flt := [2], elm := [(22, (.own .imm)), (24, (.own .imm)), (26, (.own .imm))], live := [], ord := [], con := [((16, [.one]), impl_depths.con N)], loops := [], joins := [] }
theorem impl_CodeDepths.cons (N : Nat) : ConsOk Try.prog (impl_CodeDepths.cfg N).con := (consOk_cons (hb16) (impl_depths.ok N) (impl_depths.det N) consOk_nil)
theorem impl_CodeDepths.ls (N : Nat) : LoopsOk Try.prog (impl_CodeDepths.cfg N) (fnBody Try.f7) := loopsL (l := []) (by kernel_rfl) trivial
theorem impl_CodeDepths.b (N : Nat) (x0 : den (.sl 37 (.pair (.int .i64) (.pair (.int .i64) .unit)))) : body (impl_CodeDepths.cfg N) N Try.f7 [.one] [.v] [(false, (.own .imm))] [⟨(.sl 37 (.pair (.int .i64) (.pair (.int .i64) .unit))), .imm, x0⟩] (fun r i => some (r, i)) = bindO (impl_CodeDepths N x0) fun r => some ([⟨(.sl 2 (.int .i64)), (.own .imm), r⟩], []) := by
  show _ = bindF _ _
  conv => rhs; simp only [impl_CodeDepths, bindF_ifB, bindF_bindO, bindF_pure, bindF_none, bindF_onSum]
  kernel_rfl
theorem impl_CodeDepths.ok (N : Nat) : ConOk Try.prog 7 [.one] (impl_CodeDepths.con N) := by
  refine conOk_mk (g := impl_CodeDepths.cfg N) (N := N) (res := [(false, (.own .imm))]) tys_ok (impl_CodeDepths.cons N) mixed Try.func7 (impl_CodeDepths.ls N) rfl rfl ?_
  intro ds R k y h
  cases ds with
  | nil => exact none_some h
  | cons d0 ds =>
  cases ds with
  | cons _ _ => exact none_some h
  | nil =>
  have h0 : (castDm (.sl 37 (.pair (.int .i64) (.pair (.int .i64) .unit))) .imm d0 fun x0 => bindO (impl_CodeDepths N x0) fun r => k [⟨(.sl 2 (.int .i64)), (.own .imm), r⟩] []) = some y := h
  clear h
  obtain ⟨x0, rfl, h1⟩ := castDm_eq h0
  exact con_fin (impl_CodeDepths.b N x0) h1
theorem impl_CodeDepths.det (N : Nat) : ConDet (impl_CodeDepths.con N) := by
  intro ds R k y h
  cases ds with
  | nil => exact none_some h
  | cons d0 ds =>
  cases ds with
  | cons _ _ => exact none_some h
  | nil =>
  have h0 : (castDm (.sl 37 (.pair (.int .i64) (.pair (.int .i64) .unit))) .imm d0 fun x0 => bindO (impl_CodeDepths N x0) fun r => k [⟨(.sl 2 (.int .i64)), (.own .imm), r⟩] []) = some y := h
  clear h
  obtain ⟨x0, rfl, h1⟩ := castDm_eq h0
  obtain ⟨r, e, h⟩ := bindO_some h1
  refine ⟨_, _, h, fun k' => ?_⟩
  show (castDm (.sl 37 (.pair (.int .i64) (.pair (.int .i64) .unit))) .imm (⟨(.sl 37 (.pair (.int .i64) (.pair (.int .i64) .unit))), .imm, x0⟩ : Dy) fun x0 => bindO (impl_CodeDepths N x0) fun r => k' [⟨(.sl 2 (.int .i64)), (.own .imm), r⟩] []) = _
  simp only [castDm_self]
  rw [e]
  rfl
def laws_eqInt64S.sk4 : Skel := ⟨[.pv (.sl 2 (.int .i64)), .pv (.sl 2 (.int .i64)), .dead, .dead, .dead, .pv (.int .i64), .dead, .dead, .dead, .dead, .dead, .dead, .dead, .dead, .dead, .dead, .dead, .dead, .dead, .dead, .dead, .dead, .dead, .dead, .dead, .dead], []⟩
def laws_eqInt64S.xs4 : List XS := [⟨.exit 0, [], ⟨[.dead, .dead, .dead, .dead, .dead, .dead, .dead, .dead, .dead, .dead, .dead, .dead, .dead, .dead, .dead, .dead, .dead, .dead, .dead, .dead, .dead, .dead, .dead, .dead, .dead, .dead], []⟩⟩, ⟨.ret, [4], ⟨[.dead, .dead, .dead, .dead, .pv .bool, .dead, .dead, .dead, .dead, .dead, .dead, .dead, .dead, .dead, .dead, .dead, .dead, .dead, .dead, .dead, .dead, .dead, .dead, .dead, .dead, .dead], []⟩⟩]
noncomputable def laws_eqInt64S.con (N : Nat) : Con := { modes := [.v, .v], ptrs := [false], fn := fun ds k => match ds with | [d0, d1] => castDm (.sl 2 (.int .i64)) .imm d0 fun x0 => castDm (.sl 2 (.int .i64)) .imm d1 fun x1 => bindO (laws_eqInt64S N x0 x1) fun r => k [⟨.bool, .imm, r⟩] [] | _ => none }
noncomputable def laws_eqInt64S.cfg (N : Nat) : Cfg := { ty := tys, keep := [], flt := [], elm := [(22, (.own .imm)), (24, (.own .imm)), (26, (.own .imm))], live := [(4, [0, 1, 5])], ord := [(6, [0, 1, 2, 3, 4, 5, 6, 7, 8])], con := [], loops := [(4, loopCon N laws_eqInt64S.sk4 laws_eqInt64S.xs4 (fun {R} => laws_eqInt64S.l4 (R := R) N))], joins := [] }
theorem laws_eqInt64S.cons (N : Nat) : ConsOk Try.prog (laws_eqInt64S.cfg N).con := consOk_nil
theorem laws_eqInt64S.h4 {R : Type} (N : Nat) (d : laws_eqInt64S.sk4.D) (kn : laws_eqInt64S.sk4.D → Option R) (kx : XD laws_eqInt64S.xs4 → Option R) : roundK (laws_eqInt64S.cfg N) N (nthLoop (fnBody Try.f8) 0) laws_eqInt64S.sk4 laws_eqInt64S.xs4 d kn kx = laws_eqInt64S.l4 N d kn kx := by kernel_rfl
theorem laws_eqInt64S.i4 (N : Nat) : LoopsOk Try.prog (laws_eqInt64S.cfg N) (nthLoop (fnBody Try.f8) 0) := loopsL (l := []) (by kernel_rfl) trivial
theorem laws_eqInt64S.o4 (N : Nat) : LoopOk Try.prog (nthLoop (fnBody Try.f8) 0) (loopCon N laws_eqInt64S.sk4 laws_eqInt64S.xs4 (fun {R} => laws_eqInt64S.l4 (R := R) N)) := loop_ok (g := laws_eqInt64S.cfg N) tys_ok (laws_eqInt64S.cons N) mixed (laws_eqInt64S.i4 N) (fun d kn kx => laws_eqInt64S.h4 N d kn kx)
theorem laws_eqInt64S.ls (N : Nat) : LoopsOk Try.prog (laws_eqInt64S.cfg N) (fnBody Try.f8) := loopsL (l := [nthLoop (fnBody Try.f8) 0]) (by kernel_rfl) ⟨loopOne (L0 := loopCon N laws_eqInt64S.sk4 laws_eqInt64S.xs4 (fun {R} => laws_eqInt64S.l4 (R := R) N)) (id := 4) (by kernel_rfl) (by kernel_rfl) (laws_eqInt64S.o4 N), trivial⟩
theorem laws_eqInt64S.q4 {R R' : Type} {N n : Nat} {d} {k} {g : R → Option R'} : bindF (loopP (laws_eqInt64S.l4 N) n d k) g = loopP (laws_eqInt64S.l4 N) n d fun e => bindF (k e) g := bindF_loopP (fun d kn kx => by simp only [laws_eqInt64S.l4, bindF_ifB, bindF_bindO, bindF_pure, bindF_none, bindF_onSum]) n d k
theorem laws_eqInt64S.b (N : Nat) (x0 : den (.sl 2 (.int .i64))) (x1 : den (.sl 2 (.int .i64))) : body (laws_eqInt64S.cfg N) N Try.f8 [.one, .one] [.v, .v] [(false, .imm)] [⟨(.sl 2 (.int .i64)), .imm, x0⟩, ⟨(.sl 2 (.int .i64)), .imm, x1⟩] (fun r i => some (r, i)) = bindO (laws_eqInt64S N x0 x1) fun r => some ([⟨.bool, .imm, r⟩], []) := by
  show _ = bindF _ _
  conv => rhs; simp only [laws_eqInt64S, bindF_ifB, bindF_bindO, bindF_pure, bindF_none, bindF_onSum, laws_eqInt64S.q4]
  kernel_rfl
theorem laws_eqInt64S.ok (N : Nat) : ConOk Try.prog 8 [.one, .one] (laws_eqInt64S.con N) := by
  refine conOk_mk (g := laws_eqInt64S.cfg N) (N := N) (res := [(false, .imm)]) tys_ok (laws_eqInt64S.cons N) mixed Try.func8 (laws_eqInt64S.ls N) rfl rfl ?_
  intro ds R k y h
  cases ds with
  | nil => exact none_some h
  | cons d0 ds =>
  cases ds with
  | nil => exact none_some h
  | cons d1 ds =>
  cases ds with
  | cons _ _ => exact none_some h
  | nil =>
  have h0 : (castDm (.sl 2 (.int .i64)) .imm d0 fun x0 => castDm (.sl 2 (.int .i64)) .imm d1 fun x1 => bindO (laws_eqInt64S N x0 x1) fun r => k [⟨.bool, .imm, r⟩] []) = some y := h
  clear h
  obtain ⟨x0, rfl, h1⟩ := castDm_eq h0
  obtain ⟨x1, rfl, h2⟩ := castDm_eq h1
  exact con_fin (laws_eqInt64S.b N x0 x1) h2
theorem laws_eqInt64S.det (N : Nat) : ConDet (laws_eqInt64S.con N) := by
  intro ds R k y h
  cases ds with
  | nil => exact none_some h
  | cons d0 ds =>
  cases ds with
  | nil => exact none_some h
  | cons d1 ds =>
  cases ds with
  | cons _ _ => exact none_some h
  | nil =>
  have h0 : (castDm (.sl 2 (.int .i64)) .imm d0 fun x0 => castDm (.sl 2 (.int .i64)) .imm d1 fun x1 => bindO (laws_eqInt64S N x0 x1) fun r => k [⟨.bool, .imm, r⟩] []) = some y := h
  clear h
  obtain ⟨x0, rfl, h1⟩ := castDm_eq h0
  obtain ⟨x1, rfl, h2⟩ := castDm_eq h1
  obtain ⟨r, e, h⟩ := bindO_some h2
  refine ⟨_, _, h, fun k' => ?_⟩
  show (castDm (.sl 2 (.int .i64)) .imm (⟨(.sl 2 (.int .i64)), .imm, x0⟩ : Dy) fun x0 => castDm (.sl 2 (.int .i64)) .imm (⟨(.sl 2 (.int .i64)), .imm, x1⟩ : Dy) fun x1 => bindO (laws_eqInt64S N x0 x1) fun r => k' [⟨.bool, .imm, r⟩] []) = _
  simp only [castDm_self]
  rw [e]
  rfl
noncomputable def laws_eqOp.con (N : Nat) : Con := { modes := [.v, .v], ptrs := [false], fn := fun ds k => match ds with | [d0, d1] => castDm (.pair (.int .i64) (.pair (.int .i64) .unit)) .imm d0 fun x0 => castDm (.pair (.int .i64) (.pair (.int .i64) .unit)) .imm d1 fun x1 => bindO (laws_eqOp N x0 x1) fun r => k [⟨.bool, .imm, r⟩] [] | _ => none }
noncomputable def laws_eqOp.cfg (N : Nat) : Cfg := { ty := tys, keep := [], flt := [], elm := [(22, (.own .imm)), (24, (.own .imm)), (26, (.own .imm))], live := [], ord := [], con := [], loops := [], joins := [] }
theorem laws_eqOp.cons (N : Nat) : ConsOk Try.prog (laws_eqOp.cfg N).con := consOk_nil
theorem laws_eqOp.ls (N : Nat) : LoopsOk Try.prog (laws_eqOp.cfg N) (fnBody Try.f17) := loopsL (l := []) (by kernel_rfl) trivial
theorem laws_eqOp.b (N : Nat) (x0 : den (.pair (.int .i64) (.pair (.int .i64) .unit))) (x1 : den (.pair (.int .i64) (.pair (.int .i64) .unit))) : body (laws_eqOp.cfg N) N Try.f17 [.one, .one] [.v, .v] [(false, .imm)] [⟨(.pair (.int .i64) (.pair (.int .i64) .unit)), .imm, x0⟩, ⟨(.pair (.int .i64) (.pair (.int .i64) .unit)), .imm, x1⟩] (fun r i => some (r, i)) = bindO (laws_eqOp N x0 x1) fun r => some ([⟨.bool, .imm, r⟩], []) := by
  show _ = bindF _ _
  conv => rhs; simp only [laws_eqOp, bindF_ifB, bindF_bindO, bindF_pure, bindF_none, bindF_onSum]
  kernel_rfl
theorem laws_eqOp.ok (N : Nat) : ConOk Try.prog 17 [.one, .one] (laws_eqOp.con N) := by
  refine conOk_mk (g := laws_eqOp.cfg N) (N := N) (res := [(false, .imm)]) tys_ok (laws_eqOp.cons N) mixed Try.func17 (laws_eqOp.ls N) rfl rfl ?_
  intro ds R k y h
  cases ds with
  | nil => exact none_some h
  | cons d0 ds =>
  cases ds with
  | nil => exact none_some h
  | cons d1 ds =>
  cases ds with
  | cons _ _ => exact none_some h
  | nil =>
  have h0 : (castDm (.pair (.int .i64) (.pair (.int .i64) .unit)) .imm d0 fun x0 => castDm (.pair (.int .i64) (.pair (.int .i64) .unit)) .imm d1 fun x1 => bindO (laws_eqOp N x0 x1) fun r => k [⟨.bool, .imm, r⟩] []) = some y := h
  clear h
  obtain ⟨x0, rfl, h1⟩ := castDm_eq h0
  obtain ⟨x1, rfl, h2⟩ := castDm_eq h1
  exact con_fin (laws_eqOp.b N x0 x1) h2
theorem laws_eqOp.det (N : Nat) : ConDet (laws_eqOp.con N) := by
  intro ds R k y h
  cases ds with
  | nil => exact none_some h
  | cons d0 ds =>
  cases ds with
  | nil => exact none_some h
  | cons d1 ds =>
  cases ds with
  | cons _ _ => exact none_some h
  | nil =>
  have h0 : (castDm (.pair (.int .i64) (.pair (.int .i64) .unit)) .imm d0 fun x0 => castDm (.pair (.int .i64) (.pair (.int .i64) .unit)) .imm d1 fun x1 => bindO (laws_eqOp N x0 x1) fun r => k [⟨.bool, .imm, r⟩] []) = some y := h
  clear h
  obtain ⟨x0, rfl, h1⟩ := castDm_eq h0
  obtain ⟨x1, rfl, h2⟩ := castDm_eq h1
  obtain ⟨r, e, h⟩ := bindO_some h2
  refine ⟨_, _, h, fun k' => ?_⟩
  show (castDm (.pair (.int .i64) (.pair (.int .i64) .unit)) .imm (⟨(.pair (.int .i64) (.pair (.int .i64) .unit)), .imm, x0⟩ : Dy) fun x0 => castDm (.pair (.int .i64) (.pair (.int .i64) .unit)) .imm (⟨(.pair (.int .i64) (.pair (.int .i64) .unit)), .imm, x1⟩ : Dy) fun x1 => bindO (laws_eqOp N x0 x1) fun r => k' [⟨.bool, .imm, r⟩] []) = _
  simp only [castDm_self]
  rw [e]
  rfl
def laws_eqOpS.sk4 : Skel := ⟨[.pv (.sl 37 (.pair (.int .i64) (.pair (.int .i64) .unit))), .pv (.sl 37 (.pair (.int .i64) (.pair (.int .i64) .unit))), .dead, .dead, .dead, .pv (.int .i64), .dead, .dead, .dead, .dead, .dead, .dead, .dead, .dead, .dead, .dead, .dead, .dead, .dead, .dead, .dead, .dead, .dead, .dead, .dead, .dead, .dead], []⟩
def laws_eqOpS.xs4 : List XS := [⟨.exit 0, [], ⟨[.dead, .dead, .dead, .dead, .dead, .dead, .dead, .dead, .dead, .dead, .dead, .dead, .dead, .dead, .dead, .dead, .dead, .dead, .dead, .dead, .dead, .dead, .dead, .dead, .dead, .dead, .dead], []⟩⟩, ⟨.ret, [4], ⟨[.dead, .dead, .dead, .dead, .pv .bool, .dead, .dead, .dead, .dead, .dead, .dead, .dead, .dead, .dead, .dead, .dead, .dead, .dead, .dead, .dead, .dead, .dead, .dead, .dead, .dead, .dead, .dead], []⟩⟩]
noncomputable def laws_eqOpS.con (N : Nat) : Con := { modes := [.v, .v], ptrs := [false], fn := fun ds k => match ds with | [d0, d1] => castDm (.sl 37 (.pair (.int .i64) (.pair (.int .i64) .unit))) .imm d0 fun x0 => castDm (.sl 37 (.pair (.int .i64) (.pair (.int .i64) .unit))) .imm d1 fun x1 => bindO (laws_eqOpS N x0 x1) fun r => k [⟨.bool, .imm, r⟩] [] | _ => none }
noncomputable def laws_eqOpS.cfg (N : Nat) : Cfg := { ty := tys, keep := [25], flt := [], elm := [(22, (.own .imm)), (24, (.own .imm)), (26, (.own .imm))], live := [(4, [0, 1, 5])], ord := [(6, [0, 1, 2, 3, 4, 5, 6, 7, 8, 9])], con := [((17, [.one, .one]), laws_eqOp.con N)], loops := [(4, loopCon N laws_eqOpS.sk4 laws_eqOpS.xs4 (fun {R} => laws_eqOpS.l4 (R := R) N))], joins := [] }
theorem laws_eqOpS.cons (N : Nat) : ConsOk Try.prog (laws_eqOpS.cfg N).con := (consOk_cons (hb17) (laws_eqOp.ok N) (laws_eqOp.det N) consOk_nil)
theorem laws_eqOpS.h4 {R : Type} (N : Nat) (d : laws_eqOpS.sk4.D) (kn : laws_eqOpS.sk4.D → Option R) (kx : XD laws_eqOpS.xs4 → Option R) : roundK (laws_eqOpS.cfg N) N (nthLoop (fnBody Try.f9) 0) laws_eqOpS.sk4 laws_eqOpS.xs4 d kn kx = laws_eqOpS.l4 N d kn kx := by kernel_rfl
theorem laws_eqOpS.i4 (N : Nat) : LoopsOk Try.prog (laws_eqOpS.cfg N) (nthLoop (fnBody Try.f9) 0) := loopsL (l := []) (by kernel_rfl) trivial
theorem laws_eqOpS.o4 (N : Nat) : LoopOk Try.prog (nthLoop (fnBody Try.f9) 0) (loopCon N laws_eqOpS.sk4 laws_eqOpS.xs4 (fun {R} => laws_eqOpS.l4 (R := R) N)) := loop_ok (g := laws_eqOpS.cfg N) tys_ok (laws_eqOpS.cons N) mixed (laws_eqOpS.i4 N) (fun d kn kx => laws_eqOpS.h4 N d kn kx)
theorem laws_eqOpS.ls (N : Nat) : LoopsOk Try.prog (laws_eqOpS.cfg N) (fnBody Try.f9) := loopsL (l := [nthLoop (fnBody Try.f9) 0]) (by kernel_rfl) ⟨loopOne (L0 := loopCon N laws_eqOpS.sk4 laws_eqOpS.xs4 (fun {R} => laws_eqOpS.l4 (R := R) N)) (id := 4) (by kernel_rfl) (by kernel_rfl) (laws_eqOpS.o4 N), trivial⟩
theorem laws_eqOpS.q4 {R R' : Type} {N n : Nat} {d} {k} {g : R → Option R'} : bindF (loopP (laws_eqOpS.l4 N) n d k) g = loopP (laws_eqOpS.l4 N) n d fun e => bindF (k e) g := bindF_loopP (fun d kn kx => by simp only [laws_eqOpS.l4, bindF_ifB, bindF_bindO, bindF_pure, bindF_none, bindF_onSum]) n d k
theorem laws_eqOpS.b (N : Nat) (x0 : den (.sl 37 (.pair (.int .i64) (.pair (.int .i64) .unit)))) (x1 : den (.sl 37 (.pair (.int .i64) (.pair (.int .i64) .unit)))) : body (laws_eqOpS.cfg N) N Try.f9 [.one, .one] [.v, .v] [(false, .imm)] [⟨(.sl 37 (.pair (.int .i64) (.pair (.int .i64) .unit))), .imm, x0⟩, ⟨(.sl 37 (.pair (.int .i64) (.pair (.int .i64) .unit))), .imm, x1⟩] (fun r i => some (r, i)) = bindO (laws_eqOpS N x0 x1) fun r => some ([⟨.bool, .imm, r⟩], []) := by
  show _ = bindF _ _
  conv => rhs; simp only [laws_eqOpS, bindF_ifB, bindF_bindO, bindF_pure, bindF_none, bindF_onSum, laws_eqOpS.q4]
  kernel_rfl
theorem laws_eqOpS.ok (N : Nat) : ConOk Try.prog 9 [.one, .one] (laws_eqOpS.con N) := by
  refine conOk_mk (g := laws_eqOpS.cfg N) (N := N) (res := [(false, .imm)]) tys_ok (laws_eqOpS.cons N) mixed Try.func9 (laws_eqOpS.ls N) rfl rfl ?_
  intro ds R k y h
  cases ds with
  | nil => exact none_some h
  | cons d0 ds =>
  cases ds with
  | nil => exact none_some h
  | cons d1 ds =>
  cases ds with
  | cons _ _ => exact none_some h
  | nil =>
  have h0 : (castDm (.sl 37 (.pair (.int .i64) (.pair (.int .i64) .unit))) .imm d0 fun x0 => castDm (.sl 37 (.pair (.int .i64) (.pair (.int .i64) .unit))) .imm d1 fun x1 => bindO (laws_eqOpS N x0 x1) fun r => k [⟨.bool, .imm, r⟩] []) = some y := h
  clear h
  obtain ⟨x0, rfl, h1⟩ := castDm_eq h0
  obtain ⟨x1, rfl, h2⟩ := castDm_eq h1
  exact con_fin (laws_eqOpS.b N x0 x1) h2
theorem laws_eqOpS.det (N : Nat) : ConDet (laws_eqOpS.con N) := by
  intro ds R k y h
  cases ds with
  | nil => exact none_some h
  | cons d0 ds =>
  cases ds with
  | nil => exact none_some h
  | cons d1 ds =>
  cases ds with
  | cons _ _ => exact none_some h
  | nil =>
  have h0 : (castDm (.sl 37 (.pair (.int .i64) (.pair (.int .i64) .unit))) .imm d0 fun x0 => castDm (.sl 37 (.pair (.int .i64) (.pair (.int .i64) .unit))) .imm d1 fun x1 => bindO (laws_eqOpS N x0 x1) fun r => k [⟨.bool, .imm, r⟩] []) = some y := h
  clear h
  obtain ⟨x0, rfl, h1⟩ := castDm_eq h0
  obtain ⟨x1, rfl, h2⟩ := castDm_eq h1
  obtain ⟨r, e, h⟩ := bindO_some h2
  refine ⟨_, _, h, fun k' => ?_⟩
  show (castDm (.sl 37 (.pair (.int .i64) (.pair (.int .i64) .unit))) .imm (⟨(.sl 37 (.pair (.int .i64) (.pair (.int .i64) .unit))), .imm, x0⟩ : Dy) fun x0 => castDm (.sl 37 (.pair (.int .i64) (.pair (.int .i64) .unit))) .imm (⟨(.sl 37 (.pair (.int .i64) (.pair (.int .i64) .unit))), .imm, x1⟩ : Dy) fun x1 => bindO (laws_eqOpS N x0 x1) fun r => k' [⟨.bool, .imm, r⟩] []) = _
  simp only [castDm_self]
  rw [e]
  rfl
end Go.AE.F
