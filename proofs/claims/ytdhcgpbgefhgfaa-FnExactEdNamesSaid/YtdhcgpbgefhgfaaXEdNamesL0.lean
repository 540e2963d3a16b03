/- The printed functions are what the program comes to: contracts. -/
import Derived.Test.YtdhcgpbgefhgfaaXEdNamesF5
import Derived.Test.YtdhcgpbgefhgfaaXEdNamesT
noncomputable section
namespace Go.AE.F
open Go.AE Go.Proofs
set_option maxRecDepth 100000
def spec_EdNames.con (N : Nat) : Con := { modes := [], ptrs := [false], fn := fun ds k => match ds with | [] => bindO (spec_EdNames N) fun r => k [⟨(.sl 9 .str), (.own .imm), r⟩] [] | _ => none }
def spec_EdNames.cfg (N : Nat) : Cfg := { ty := tys, keep := [], flt := [], elm := elm0, live := [], ord := [], con := [], loops := [], joins := [] }
theorem spec_EdNames.cons (N : Nat) : ConsOk Try.prog (spec_EdNames.cfg N).con := consOk_nil
theorem spec_EdNames.ls (N : Nat) : LoopsOk Try.prog (spec_EdNames.cfg N) (fnBody Try.f4) := loopsL (l := []) (by kernel_rfl) trivial
theorem spec_EdNames.b (N : Nat)  : body (spec_EdNames.cfg N) N Try.f4 [] [] [(false, (.own .imm))] [] (fun r i => some (r, i)) = bindO (spec_EdNames N) fun r => some ([⟨(.sl 9 .str), (.own .imm), r⟩], []) := by
  show _ = bindF _ _
  conv => rhs; simp only [spec_EdNames, bindF_ifB, bindF_bindO, bindF_pure, bindF_none, bindF_onSum]
  kernel_rfl
theorem spec_EdNames.ok (N : Nat) : ConOk Try.prog 4 [] (spec_EdNames.con N) := by
  refine conOk_mk (g := spec_EdNames.cfg N) (N := N) (res := [(false, (.own .imm))]) tys_ok (spec_EdNames.cons N) mixed Try.func4 (spec_EdNames.ls N) rfl rfl ?_
  intro ds R k y h
  cases ds with
  | cons _ _ => exact none_some h
  | nil =>
  have h0 : (bindO (spec_EdNames N) fun r => k [⟨(.sl 9 .str), (.own .imm), r⟩] []) = some y := h
  clear h
  exact con_fin (spec_EdNames.b N) h0
theorem spec_EdNames.det (N : Nat) : ConDet (spec_EdNames.con N) := by
  intro ds R k y h
  cases ds with
  | cons _ _ => exact none_some h
  | nil =>
  have h0 : (bindO (spec_EdNames N) fun r => k [⟨(.sl 9 .str), (.own .imm), r⟩] []) = some y := h
  clear h
  obtain ⟨r, e, h⟩ := bindO_some h0
  refine ⟨_, _, h, fun k' => ?_⟩
  show (bindO (spec_EdNames N) fun r => k' [⟨(.sl 9 .str), (.own .imm), r⟩] []) = _
  skip
  rw [e]
  rfl
def impl_moves.con (N : Nat) : Con := { modes := [], ptrs := [false], fn := fun ds k => match ds with | [] => bindO (impl_moves N) fun r => k [⟨(.sl 9 .str), (.own .imm), r⟩] [] | _ => none }
def impl_moves.cfg (N : Nat) : Cfg := { ty := tys, keep := [], flt := [], elm := elm0, live := [], ord := [], con := [], loops := [], joins := [] }
theorem impl_moves.cons (N : Nat) : ConsOk Try.prog (impl_moves.cfg N).con := consOk_nil
theorem impl_moves.ls (N : Nat) : LoopsOk Try.prog (impl_moves.cfg N) (fnBody Try.f9) := loopsL (l := []) (by kernel_rfl) trivial
theorem impl_moves.b (N : Nat)  : body (impl_moves.cfg N) N Try.f9 [] [] [(false, (.own .imm))] [] (fun r i => some (r, i)) = bindO (impl_moves N) fun r => some ([⟨(.sl 9 .str), (.own .imm), r⟩], []) := by
  show _ = bindF _ _
  conv => rhs; simp only [impl_moves, bindF_ifB, bindF_bindO, bindF_pure, bindF_none, bindF_onSum]
  kernel_rfl
theorem impl_moves.ok (N : Nat) : ConOk Try.prog 9 [] (impl_moves.con N) := by
  refine conOk_mk (g := impl_moves.cfg N) (N := N) (res := [(false, (.own .imm))]) tys_ok (impl_moves.cons N) mixed Try.func9 (impl_moves.ls N) rfl rfl ?_
  intro ds R k y h
  cases ds with
  | cons _ _ => exact none_some h
  | nil =>
  have h0 : (bindO (impl_moves N) fun r => k [⟨(.sl 9 .str), (.own .imm), r⟩] []) = some y := h
  clear h
  exact con_fin (impl_moves.b N) h0
theorem impl_moves.det (N : Nat) : ConDet (impl_moves.con N) := by
  intro ds R k y h
  cases ds with
  | cons _ _ => exact none_some h
  | nil =>
  have h0 : (bindO (impl_moves N) fun r => k [⟨(.sl 9 .str), (.own .imm), r⟩] []) = some y := h
  clear h
  obtain ⟨r, e, h⟩ := bindO_some h0
  refine ⟨_, _, h, fun k' => ?_⟩
  show (bindO (impl_moves N) fun r => k' [⟨(.sl 9 .str), (.own .imm), r⟩] []) = _
  skip
  rw [e]
  rfl
def math_bits_Len32.con (N : Nat) : Con := { modes := [.v], ptrs := [false], fn := fn1 (.int .u32) .imm (math_bits_Len32 N) (fun r => [⟨(.int .i64), .imm, r⟩]) (fun r => []) }
def math_bits_Len32.cfg (N : Nat) : Cfg := { ty := tys, keep := [], flt := [], elm := elm0, live := [], ord := [], con := [], loops := [], joins := [] }
theorem math_bits_Len32.cons (N : Nat) : ConsOk Try.prog (math_bits_Len32.cfg N).con := consOk_nil
theorem math_bits_Len32.ls (N : Nat) : LoopsOk Try.prog (math_bits_Len32.cfg N) (fnBody Try.f23) := loopsL (l := []) (by kernel_rfl) trivial
theorem math_bits_Len32.b (N : Nat) (x0 : den (.int .u32)) : body (math_bits_Len32.cfg N) N Try.f23 [.one] [.v] [(false, .imm)] [⟨(.int .u32), .imm, x0⟩] (fun r i => some (r, i)) = bindO (math_bits_Len32 N x0) fun r => some ([⟨(.int .i64), .imm, r⟩], []) := by
  show _ = bindF _ _
  conv => rhs; simp only [math_bits_Len32, bindF_ifB, bindF_bindO, bindF_pure, bindF_none, bindF_onSum]
  kernel_rfl
theorem math_bits_Len32.ok (N : Nat) : ConOk Try.prog 23 [.one] (math_bits_Len32.con N) := ok1 (g := math_bits_Len32.cfg N) (N := N) (res := [(false, .imm)]) tys_ok (math_bits_Len32.cons N) mixed Try.func23 (math_bits_Len32.ls N) rfl (math_bits_Len32.b N)
theorem math_bits_Len32.det (N : Nat) : ConDet (math_bits_Len32.con N) := det1
def math_bits_Len64.con (N : Nat) : Con := { modes := [.v], ptrs := [false], fn := fn1 (.int .u64) .imm (math_bits_Len64 N) (fun r => [⟨(.int .i64), .imm, r⟩]) (fun r => []) }
def math_bits_Len64.cfg (N : Nat) : Cfg := { ty := tys, keep := [], flt := [], elm := elm0, live := [], ord := [], con := [], loops := [], joins := [] }
theorem math_bits_Len64.cons (N : Nat) : ConsOk Try.prog (math_bits_Len64.cfg N).con := consOk_nil
theorem math_bits_Len64.ls (N : Nat) : LoopsOk Try.prog (math_bits_Len64.cfg N) (fnBody Try.f24) := loopsL (l := []) (by kernel_rfl) trivial
theorem math_bits_Len64.b (N : Nat) (x0 : den (.int .u64)) : body (math_bits_Len64.cfg N) N Try.f24 [.one] [.v] [(false, .imm)] [⟨(.int .u64), .imm, x0⟩] (fun r i => some (r, i)) = bindO (math_bits_Len64 N x0) fun r => some ([⟨(.int .i64), .imm, r⟩], []) := by
  show _ = bindF _ _
  conv => rhs; simp only [math_bits_Len64, bindF_ifB, bindF_bindO, bindF_pure, bindF_none, bindF_onSum]
  kernel_rfl
theorem math_bits_Len64.ok (N : Nat) : ConOk Try.prog 24 [.one] (math_bits_Len64.con N) := ok1 (g := math_bits_Len64.cfg N) (N := N) (res := [(false, .imm)]) tys_ok (math_bits_Len64.cons N) mixed Try.func24 (math_bits_Len64.ls N) rfl (math_bits_Len64.b N)
theorem math_bits_Len64.det (N : Nat) : ConDet (math_bits_Len64.con N) := det1
def math_bits_Len.con (N : Nat) : Con := { modes := [.v], ptrs := [false], fn := fn1 (.int .u64) .imm (math_bits_Len N) (fun r => [⟨(.int .i64), .imm, r⟩]) (fun r => []) }
def math_bits_Len.cfg (N : Nat) : Cfg := { ty := tys, keep := [5, 7], flt := [], elm := elm0, live := [], ord := [], con := [((23, [.one]), math_bits_Len32.con N), ((24, [.one]), math_bits_Len64.con N)], loops := [], joins := [] }
theorem math_bits_Len.cons (N : Nat) : ConsOk Try.prog (math_bits_Len.cfg N).con := (consOk_cons (hb23) (math_bits_Len32.ok N) (math_bits_Len32.det N) (consOk_cons (hb24) (math_bits_Len64.ok N) (math_bits_Len64.det N) consOk_nil))
theorem math_bits_Len.ls (N : Nat) : LoopsOk Try.prog (math_bits_Len.cfg N) (fnBody Try.f13) := loopsL (l := []) (by kernel_rfl) trivial
theorem math_bits_Len.b (N : Nat) (x0 : den (.int .u64)) : body (math_bits_Len.cfg N) N Try.f13 [.one] [.v] [(false, .imm)] [⟨(.int .u64), .imm, x0⟩] (fun r i => some (r, i)) = bindO (math_bits_Len N x0) fun r => some ([⟨(.int .i64), .imm, r⟩], []) := by
  show _ = bindF _ _
  conv => rhs; simp only [math_bits_Len, bindF_ifB, bindF_bindO, bindF_pure, bindF_none, bindF_onSum]
  kernel_rfl
theorem math_bits_Len.ok (N : Nat) : ConOk Try.prog 13 [.one] (math_bits_Len.con N) := ok1 (g := math_bits_Len.cfg N) (N := N) (res := [(false, .imm)]) tys_ok (math_bits_Len.cons N) mixed Try.func13 (math_bits_Len.ls N) rfl (math_bits_Len.b N)
theorem math_bits_Len.det (N : Nat) : ConDet (math_bits_Len.con N) := det1
def cmp_isNaN_Sstring.con (N : Nat) : Con := { modes := [.v], ptrs := [false], fn := fn1 .str .imm (cmp_isNaN_Sstring N) (fun r => [⟨.bool, .imm, r⟩]) (fun r => []) }
def cmp_isNaN_Sstring.cfg (N : Nat) : Cfg := { ty := tys, keep := [], flt := [], elm := elm0, live := [], ord := [], con := [], loops := [], joins := [] }
theorem cmp_isNaN_Sstring.cons (N : Nat) : ConsOk Try.prog (cmp_isNaN_Sstring.cfg N).con := consOk_nil
theorem cmp_isNaN_Sstring.ls (N : Nat) : LoopsOk Try.prog (cmp_isNaN_Sstring.cfg N) (fnBody Try.f30) := loopsL (l := []) (by kernel_rfl) trivial
theorem cmp_isNaN_Sstring.b (N : Nat) (x0 : den .str) : body (cmp_isNaN_Sstring.cfg N) N Try.f30 [.one] [.v] [(false, .imm)] [⟨.str, .imm, x0⟩] (fun r i => some (r, i)) = bindO (cmp_isNaN_Sstring N x0) fun r => some ([⟨.bool, .imm, r⟩], []) := by
  show _ = bindF _ _
  conv => rhs; simp only [cmp_isNaN_Sstring, bindF_ifB, bindF_bindO, bindF_pure, bindF_none, bindF_onSum]
  kernel_rfl
theorem cmp_isNaN_Sstring.ok (N : Nat) : ConOk Try.prog 30 [.one] (cmp_isNaN_Sstring.con N) := ok1 (g := cmp_isNaN_Sstring.cfg N) (N := N) (res := [(false, .imm)]) tys_ok (cmp_isNaN_Sstring.cons N) mixed Try.func30 (cmp_isNaN_Sstring.ls N) rfl (cmp_isNaN_Sstring.b N)
theorem cmp_isNaN_Sstring.det (N : Nat) : ConDet (cmp_isNaN_Sstring.con N) := det1
def cmp_Less_Sstring.con (N : Nat) : Con := { modes := [.v, .v], ptrs := [false], fn := fn2 .str .imm .str .imm (cmp_Less_Sstring N) (fun r => [⟨.bool, .imm, r⟩]) (fun r => []) }
def cmp_Less_Sstring.cfg (N : Nat) : Cfg := { ty := tys, keep := [6, 9], flt := [], elm := elm0, live := [], ord := [], con := [((30, [.one]), cmp_isNaN_Sstring.con N)], loops := [], joins := [] }
theorem cmp_Less_Sstring.cons (N : Nat) : ConsOk Try.prog (cmp_Less_Sstring.cfg N).con := (consOk_cons (hb30) (cmp_isNaN_Sstring.ok N) (cmp_isNaN_Sstring.det N) consOk_nil)
theorem cmp_Less_Sstring.ls (N : Nat) : LoopsOk Try.prog (cmp_Less_Sstring.cfg N) (fnBody Try.f20) := loopsL (l := []) (by kernel_rfl) trivial
theorem cmp_Less_Sstring.b (N : Nat) (x0 : den .str) (x1 : den .str) : body (cmp_Less_Sstring.cfg N) N Try.f20 [.one, .one] [.v, .v] [(false, .imm)] [⟨.str, .imm, x0⟩, ⟨.str, .imm, x1⟩] (fun r i => some (r, i)) = bindO (cmp_Less_Sstring N x0 x1) fun r => some ([⟨.bool, .imm, r⟩], []) := by
  show _ = bindF _ _
  conv => rhs; simp only [cmp_Less_Sstring, bindF_ifB, bindF_bindO, bindF_pure, bindF_none, bindF_onSum]
  kernel_rfl
theorem cmp_Less_Sstring.ok (N : Nat) : ConOk Try.prog 20 [.one, .one] (cmp_Less_Sstring.con N) := ok2 (g := cmp_Less_Sstring.cfg N) (N := N) (res := [(false, .imm)]) tys_ok (cmp_Less_Sstring.cons N) mixed Try.func20 (cmp_Less_Sstring.ls N) rfl (cmp_Less_Sstring.b N)
theorem cmp_Less_Sstring.det (N : Nat) : ConDet (cmp_Less_Sstring.con N) := det2
def slices_insertionSortOrdered_Sstring.sk1 : Skel := ⟨.ov 0 [] :: (.pv (.int .i64) :: (.pv (.int .i64) :: (dd 3 (.pv (.int .i64) :: (dd 42 []))))), [⟨0, (.sl 9 .str), (.own .imm), false, true⟩]⟩
def slices_insertionSortOrdered_Sstring.xs1 : List XS := [⟨.exit 0, [], ⟨dd 49 [], [⟨0, (.sl 9 .str), (.own .imm), false, true⟩]⟩⟩]
def slices_insertionSortOrdered_Sstring.sk4 : Skel := ⟨.ov 0 [] :: (.pv (.int .i64) :: (.pv (.int .i64) :: (dd 3 (.pv (.int .i64) :: (.pv (.int .i64) :: (dd 41 [])))))), [⟨0, (.sl 9 .str), (.own .imm), false, true⟩]⟩
def slices_insertionSortOrdered_Sstring.xs4 : List XS := [⟨.exit 2, [0, 1, 2, 6, 20, 21, 22, 23, 24, 25, 26, 27, 28, 29], ⟨.ov 0 [] :: (.pv (.int .i64) :: (.pv (.int .i64) :: (dd 3 (.pv (.int .i64) :: (dd 42 []))))), [⟨0, (.sl 9 .str), (.own .imm), false, true⟩]⟩⟩]
def slices_insertionSortOrdered_Sstring.con (N : Nat) : Con := { modes := [.iov, .v, .v], ptrs := [], fn := fn3 (.sl 9 .str) (.own .imm) (.int .i64) .imm (.int .i64) .imm (slices_insertionSortOrdered_Sstring N) (fun r => []) (fun r => [⟨(.sl 9 .str), (.own .imm), r⟩]) }
def slices_insertionSortOrdered_Sstring.cfg (N : Nat) : Cfg := { ty := tys, keep := [29], flt := [], elm := elm0, live := [(4, [0, 1, 2, 6, 7, 20, 21, 22, 23, 24, 25, 26, 27, 28, 29]), (1, [0, 1, 2, 6, 20, 21, 22, 23, 24, 25, 26, 27, 28, 29])], ord := [(4, [0, 1, 2, 3, 4, 5, 6, 7, 8, 9, 10, 11, 12, 13, 14]), (6, [0, 1, 2, 3, 4, 5, 6, 7, 8, 9, 10, 11, 12, 13, 14, 15, 16, 17])], con := [((20, [.one, .one]), cmp_Less_Sstring.con N)], loops := [(1, loopCon N slices_insertionSortOrdered_Sstring.sk1 slices_insertionSortOrdered_Sstring.xs1 (fun {R} => slices_insertionSortOrdered_Sstring.l1 (R := R) N)), (4, loopCon N slices_insertionSortOrdered_Sstring.sk4 slices_insertionSortOrdered_Sstring.xs4 (fun {R} => slices_insertionSortOrdered_Sstring.l4 (R := R) N))], joins := [] }
theorem slices_insertionSortOrdered_Sstring.cons (N : Nat) : ConsOk Try.prog (slices_insertionSortOrdered_Sstring.cfg N).con := (consOk_cons (hb20) (cmp_Less_Sstring.ok N) (cmp_Less_Sstring.det N) consOk_nil)
theorem slices_insertionSortOrdered_Sstring.h4 {R : Type} (N : Nat) (d : slices_insertionSortOrdered_Sstring.sk4.D) (kn : slices_insertionSortOrdered_Sstring.sk4.D → Option R) (kx : XD slices_insertionSortOrdered_Sstring.xs4 → Option R) : roundK (slices_insertionSortOrdered_Sstring.cfg N) N (nthLoop (fnBody Try.f14) 1) slices_insertionSortOrdered_Sstring.sk4 slices_insertionSortOrdered_Sstring.xs4 d kn kx = slices_insertionSortOrdered_Sstring.l4 N d kn kx := by kernel_rfl
theorem slices_insertionSortOrdered_Sstring.i4 (N : Nat) : LoopsOk Try.prog (slices_insertionSortOrdered_Sstring.cfg N) (nthLoop (fnBody Try.f14) 1) := loopsL (l := []) (by kernel_rfl) trivial
theorem slices_insertionSortOrdered_Sstring.o4 (N : Nat) : LoopOk Try.prog (nthLoop (fnBody Try.f14) 1) (loopCon N slices_insertionSortOrdered_Sstring.sk4 slices_insertionSortOrdered_Sstring.xs4 (fun {R} => slices_insertionSortOrdered_Sstring.l4 (R := R) N)) := loop_ok (g := slices_insertionSortOrdered_Sstring.cfg N) tys_ok (slices_insertionSortOrdered_Sstring.cons N) mixed (slices_insertionSortOrdered_Sstring.i4 N) (fun d kn kx => slices_insertionSortOrdered_Sstring.h4 N d kn kx)
theorem slices_insertionSortOrdered_Sstring.h1 {R : Type} (N : Nat) (d : slices_insertionSortOrdered_Sstring.sk1.D) (kn : slices_insertionSortOrdered_Sstring.sk1.D → Option R) (kx : XD slices_insertionSortOrdered_Sstring.xs1 → Option R) : roundK (slices_insertionSortOrdered_Sstring.cfg N) N (nthLoop (fnBody Try.f14) 0) slices_insertionSortOrdered_Sstring.sk1 slices_insertionSortOrdered_Sstring.xs1 d kn kx = slices_insertionSortOrdered_Sstring.l1 N d kn kx := by kernel_rfl
theorem slices_insertionSortOrdered_Sstring.i1 (N : Nat) : LoopsOk Try.prog (slices_insertionSortOrdered_Sstring.cfg N) (nthLoop (fnBody Try.f14) 0) := loopsL (l := [nthLoop (fnBody Try.f14) 1]) (by kernel_rfl) ⟨loopOne (L0 := loopCon N slices_insertionSortOrdered_Sstring.sk4 slices_insertionSortOrdered_Sstring.xs4 (fun {R} => slices_insertionSortOrdered_Sstring.l4 (R := R) N)) (id := 4) (by kernel_rfl) (by kernel_rfl) (slices_insertionSortOrdered_Sstring.o4 N), trivial⟩
theorem slices_insertionSortOrdered_Sstring.o1 (N : Nat) : LoopOk Try.prog (nthLoop (fnBody Try.f14) 0) (loopCon N slices_insertionSortOrdered_Sstring.sk1 slices_insertionSortOrdered_Sstring.xs1 (fun {R} => slices_insertionSortOrdered_Sstring.l1 (R := R) N)) := loop_ok (g := slices_insertionSortOrdered_Sstring.cfg N) tys_ok (slices_insertionSortOrdered_Sstring.cons N) mixed (slices_insertionSortOrdered_Sstring.i1 N) (fun d kn kx => slices_insertionSortOrdered_Sstring.h1 N d kn kx)
theorem slices_insertionSortOrdered_Sstring.ls (N : Nat) : LoopsOk Try.prog (slices_insertionSortOrdered_Sstring.cfg N) (fnBody Try.f14) := loopsL (l := [nthLoop (fnBody Try.f14) 0, nthLoop (fnBody Try.f14) 1]) (by kernel_rfl) ⟨loopOne (L0 := loopCon N slices_insertionSortOrdered_Sstring.sk1 slices_insertionSortOrdered_Sstring.xs1 (fun {R} => slices_insertionSortOrdered_Sstring.l1 (R := R) N)) (id := 1) (by kernel_rfl) (by kernel_rfl) (slices_insertionSortOrdered_Sstring.o1 N), ⟨loopOne (L0 := loopCon N slices_insertionSortOrdered_Sstring.sk4 slices_insertionSortOrdered_Sstring.xs4 (fun {R} => slices_insertionSortOrdered_Sstring.l4 (R := R) N)) (id := 4) (by kernel_rfl) (by kernel_rfl) (slices_insertionSortOrdered_Sstring.o4 N), trivial⟩⟩
theorem slices_insertionSortOrdered_Sstring.q4 {R R' : Type} {N n : Nat} {d} {k} {g : R → Option R'} : bindF (loopP (slices_insertionSortOrdered_Sstring.l4 N) n d k) g = loopP (slices_insertionSortOrdered_Sstring.l4 N) n d fun e => bindF (k e) g := bindF_loopP (fun d kn kx => by simp only [slices_insertionSortOrdered_Sstring.l4, bindF_ifB, bindF_bindO, bindF_pure, bindF_none, bindF_onSum]) n d k
theorem slices_insertionSortOrdered_Sstring.q1 {R R' : Type} {N n : Nat} {d} {k} {g : R → Option R'} : bindF (loopP (slices_insertionSortOrdered_Sstring.l1 N) n d k) g = loopP (slices_insertionSortOrdered_Sstring.l1 N) n d fun e => bindF (k e) g := bindF_loopP (fun d kn kx => by simp only [slices_insertionSortOrdered_Sstring.l1, bindF_ifB, bindF_bindO, bindF_pure, bindF_none, bindF_onSum, slices_insertionSortOrdered_Sstring.q4]) n d k
theorem slices_insertionSortOrdered_Sstring.b (N : Nat) (x0 : den (.sl 9 .str)) (x1 : den (.int .i64)) (x2 : den (.int .i64)) : body (slices_insertionSortOrdered_Sstring.cfg N) N Try.f14 [.one, .one, .one] [.iov, .v, .v] [] [⟨(.sl 9 .str), (.own .imm), x0⟩, ⟨(.int .i64), .imm, x1⟩, ⟨(.int .i64), .imm, x2⟩] (fun r i => some (r, i)) = bindO (slices_insertionSortOrdered_Sstring N x0 x1 x2) fun r => some ([], [⟨(.sl 9 .str), (.own .imm), r⟩]) := by
  show _ = bindF _ _
  conv => rhs; simp only [slices_insertionSortOrdered_Sstring, bindF_ifB, bindF_bindO, bindF_pure, bindF_none, bindF_onSum, slices_insertionSortOrdered_Sstring.q1, slices_insertionSortOrdered_Sstring.q4]
  kernel_rfl
theorem slices_insertionSortOrdered_Sstring.ok (N : Nat) : ConOk Try.prog 14 [.one, .one, .one] (slices_insertionSortOrdered_Sstring.con N) := ok3 (g := slices_insertionSortOrdered_Sstring.cfg N) (N := N) (res := []) tys_ok (slices_insertionSortOrdered_Sstring.cons N) mixed Try.func14 (slices_insertionSortOrdered_Sstring.ls N) rfl (slices_insertionSortOrdered_Sstring.b N)
theorem slices_insertionSortOrdered_Sstring.det (N : Nat) : ConDet (slices_insertionSortOrdered_Sstring.con N) := det3
def slices_siftDownOrdered_Sstring.sk1 : Skel := ⟨.ov 0 [] :: (dd 1 (.pv (.int .i64) :: (.pv (.int .i64) :: (dd 4 (.pv (.int .i64) :: (dd 67 [])))))), [⟨0, (.sl 9 .str), (.own .imm), false, true⟩]⟩
def slices_siftDownOrdered_Sstring.xs1 : List XS := [⟨.exit 0, [], ⟨dd 76 [], [⟨0, (.sl 9 .str), (.own .imm), false, true⟩]⟩⟩, ⟨.ret, [], ⟨dd 76 [], [⟨0, (.sl 9 .str), (.own .imm), false, true⟩]⟩⟩]
def slices_siftDownOrdered_Sstring.con (N : Nat) : Con := { modes := [.iov, .v, .v, .v], ptrs := [], fn := fn4 (.sl 9 .str) (.own .imm) (.int .i64) .imm (.int .i64) .imm (.int .i64) .imm (slices_siftDownOrdered_Sstring N) (fun r => []) (fun r => [⟨(.sl 9 .str), (.own .imm), r⟩]) }
def slices_siftDownOrdered_Sstring.cfg (N : Nat) : Cfg := { ty := tys, keep := [35, 51], flt := [], elm := elm0, live := [(1, [0, 2, 3, 8, 22, 23, 24, 25, 26, 27, 28, 29, 30, 31, 32, 33, 34, 35])], ord := [(3, [0, 1, 2, 3, 4, 5, 6, 7, 8, 9, 10, 11, 12, 13, 14, 15, 16, 17, 18, 19]), (5, [0, 1, 2, 3, 4, 5, 6, 7, 8, 9, 10, 11, 12, 13]), (6, [0, 1, 2, 3, 4, 5, 6, 7, 8, 9, 10, 11, 12, 13, 14, 15, 16, 17, 18, 19, 20, 21, 22, 23])], con := [((20, [.one, .one]), cmp_Less_Sstring.con N)], loops := [(1, loopCon N slices_siftDownOrdered_Sstring.sk1 slices_siftDownOrdered_Sstring.xs1 (fun {R} => slices_siftDownOrdered_Sstring.l1 (R := R) N))], joins := [] }
theorem slices_siftDownOrdered_Sstring.cons (N : Nat) : ConsOk Try.prog (slices_siftDownOrdered_Sstring.cfg N).con := (consOk_cons (hb20) (cmp_Less_Sstring.ok N) (cmp_Less_Sstring.det N) consOk_nil)
theorem slices_siftDownOrdered_Sstring.h1 {R : Type} (N : Nat) (d : slices_siftDownOrdered_Sstring.sk1.D) (kn : slices_siftDownOrdered_Sstring.sk1.D → Option R) (kx : XD slices_siftDownOrdered_Sstring.xs1 → Option R) : roundK (slices_siftDownOrdered_Sstring.cfg N) N (nthLoop (fnBody Try.f25) 0) slices_siftDownOrdered_Sstring.sk1 slices_siftDownOrdered_Sstring.xs1 d kn kx = slices_siftDownOrdered_Sstring.l1 N d kn kx := by kernel_rfl
theorem slices_siftDownOrdered_Sstring.i1 (N : Nat) : LoopsOk Try.prog (slices_siftDownOrdered_Sstring.cfg N) (nthLoop (fnBody Try.f25) 0) := loopsL (l := []) (by kernel_rfl) trivial
theorem slices_siftDownOrdered_Sstring.o1 (N : Nat) : LoopOk Try.prog (nthLoop (fnBody Try.f25) 0) (loopCon N slices_siftDownOrdered_Sstring.sk1 slices_siftDownOrdered_Sstring.xs1 (fun {R} => slices_siftDownOrdered_Sstring.l1 (R := R) N)) := loop_ok (g := slices_siftDownOrdered_Sstring.cfg N) tys_ok (slices_siftDownOrdered_Sstring.cons N) mixed (slices_siftDownOrdered_Sstring.i1 N) (fun d kn kx => slices_siftDownOrdered_Sstring.h1 N d kn kx)
theorem slices_siftDownOrdered_Sstring.ls (N : Nat) : LoopsOk Try.prog (slices_siftDownOrdered_Sstring.cfg N) (fnBody Try.f25) := loopsL (l := [nthLoop (fnBody Try.f25) 0]) (by kernel_rfl) ⟨loopOne (L0 := loopCon N slices_siftDownOrdered_Sstring.sk1 slices_siftDownOrdered_Sstring.xs1 (fun {R} => slices_siftDownOrdered_Sstring.l1 (R := R) N)) (id := 1) (by kernel_rfl) (by kernel_rfl) (slices_siftDownOrdered_Sstring.o1 N), trivial⟩
theorem slices_siftDownOrdered_Sstring.q1 {R R' : Type} {N n : Nat} {d} {k} {g : R → Option R'} : bindF (loopP (slices_siftDownOrdered_Sstring.l1 N) n d k) g = loopP (slices_siftDownOrdered_Sstring.l1 N) n d fun e => bindF (k e) g := bindF_loopP (fun d kn kx => by simp only [slices_siftDownOrdered_Sstring.l1, bindF_ifB, bindF_bindO, bindF_pure, bindF_none, bindF_onSum]) n d k
theorem slices_siftDownOrdered_Sstring.b (N : Nat) (x0 : den (.sl 9 .str)) (x1 : den (.int .i64)) (x2 : den (.int .i64)) (x3 : den (.int .i64)) : body (slices_siftDownOrdered_Sstring.cfg N) N Try.f25 [.one, .one, .one, .one] [.iov, .v, .v, .v] [] [⟨(.sl 9 .str), (.own .imm), x0⟩, ⟨(.int .i64), .imm, x1⟩, ⟨(.int .i64), .imm, x2⟩, ⟨(.int .i64), .imm, x3⟩] (fun r i => some (r, i)) = bindO (slices_siftDownOrdered_Sstring N x0 x1 x2 x3) fun r => some ([], [⟨(.sl 9 .str), (.own .imm), r⟩]) := by
  show _ = bindF _ _
  conv => rhs; simp only [slices_siftDownOrdered_Sstring, bindF_ifB, bindF_bindO, bindF_pure, bindF_none, bindF_onSum, slices_siftDownOrdered_Sstring.q1]
  kernel_rfl
theorem slices_siftDownOrdered_Sstring.ok (N : Nat) : ConOk Try.prog 25 [.one, .one, .one, .one] (slices_siftDownOrdered_Sstring.con N) := ok4 (g := slices_siftDownOrdered_Sstring.cfg N) (N := N) (res := []) tys_ok (slices_siftDownOrdered_Sstring.cons N) mixed Try.func25 (slices_siftDownOrdered_Sstring.ls N) rfl (slices_siftDownOrdered_Sstring.b N)
theorem slices_siftDownOrdered_Sstring.det (N : Nat) : ConDet (slices_siftDownOrdered_Sstring.con N) := det4
def slices_heapSortOrdered_Sstring.sk4 : Skel := ⟨.ov 0 [] :: (dd 5 (.pv (.int .i64) :: (.pv (.int .i64) :: (.pv (.int .i64) :: (.pv (.int .i64) :: (dd 46 [])))))), [⟨0, (.sl 9 .str), (.own .imm), false, true⟩]⟩
def slices_heapSortOrdered_Sstring.xs4 : List XS := [⟨.exit 0, [0, 6, 7, 8], ⟨.ov 0 [] :: (dd 5 (.pv (.int .i64) :: (.pv (.int .i64) :: (.pv (.int .i64) :: (dd 47 []))))), [⟨0, (.sl 9 .str), (.own .imm), false, true⟩]⟩⟩]
def slices_heapSortOrdered_Sstring.sk8 : Skel := ⟨.ov 0 [] :: (dd 5 (.pv (.int .i64) :: (.pv (.int .i64) :: (dd 2 (.pv (.int .i64) :: (dd 45 [])))))), [⟨0, (.sl 9 .str), (.own .imm), false, true⟩]⟩
def slices_heapSortOrdered_Sstring.xs8 : List XS := [⟨.exit 2, [], ⟨dd 56 [], [⟨0, (.sl 9 .str), (.own .imm), false, true⟩]⟩⟩]
def slices_heapSortOrdered_Sstring.con (N : Nat) : Con := { modes := [.iov, .v, .v], ptrs := [], fn := fn3 (.sl 9 .str) (.own .imm) (.int .i64) .imm (.int .i64) .imm (slices_heapSortOrdered_Sstring N) (fun r => []) (fun r => [⟨(.sl 9 .str), (.own .imm), r⟩]) }
def slices_heapSortOrdered_Sstring.cfg (N : Nat) : Cfg := { ty := tys, keep := [26, 55], flt := [], elm := elm0, live := [(8, [0, 6, 7, 10]), (4, [0, 6, 7, 8, 9])], ord := [(10, [0, 1, 2, 3, 4, 5, 6, 7, 8, 9, 10, 11, 12, 13, 14, 15, 16, 17, 18, 19])], con := [((25, [.one, .one, .one, .one]), slices_siftDownOrdered_Sstring.con N)], loops := [(4, loopCon N slices_heapSortOrdered_Sstring.sk4 slices_heapSortOrdered_Sstring.xs4 (fun {R} => slices_heapSortOrdered_Sstring.l4 (R := R) N)), (8, loopCon N slices_heapSortOrdered_Sstring.sk8 slices_heapSortOrdered_Sstring.xs8 (fun {R} => slices_heapSortOrdered_Sstring.l8 (R := R) N))], joins := [] }
theorem slices_heapSortOrdered_Sstring.cons (N : Nat) : ConsOk Try.prog (slices_heapSortOrdered_Sstring.cfg N).con := (consOk_cons (hb25) (slices_siftDownOrdered_Sstring.ok N) (slices_siftDownOrdered_Sstring.det N) consOk_nil)
theorem slices_heapSortOrdered_Sstring.h8 {R : Type} (N : Nat) (d : slices_heapSortOrdered_Sstring.sk8.D) (kn : slices_heapSortOrdered_Sstring.sk8.D → Option R) (kx : XD slices_heapSortOrdered_Sstring.xs8 → Option R) : roundK (slices_heapSortOrdered_Sstring.cfg N) N (nthLoop (fnBody Try.f15) 1) slices_heapSortOrdered_Sstring.sk8 slices_heapSortOrdered_Sstring.xs8 d kn kx = slices_heapSortOrdered_Sstring.l8 N d kn kx := by kernel_rfl
theorem slices_heapSortOrdered_Sstring.i8 (N : Nat) : LoopsOk Try.prog (slices_heapSortOrdered_Sstring.cfg N) (nthLoop (fnBody Try.f15) 1) := loopsL (l := []) (by kernel_rfl) trivial
theorem slices_heapSortOrdered_Sstring.o8 (N : Nat) : LoopOk Try.prog (nthLoop (fnBody Try.f15) 1) (loopCon N slices_heapSortOrdered_Sstring.sk8 slices_heapSortOrdered_Sstring.xs8 (fun {R} => slices_heapSortOrdered_Sstring.l8 (R := R) N)) := loop_ok (g := slices_heapSortOrdered_Sstring.cfg N) tys_ok (slices_heapSortOrdered_Sstring.cons N) mixed (slices_heapSortOrdered_Sstring.i8 N) (fun d kn kx => slices_heapSortOrdered_Sstring.h8 N d kn kx)
theorem slices_heapSortOrdered_Sstring.h4 {R : Type} (N : Nat) (d : slices_heapSortOrdered_Sstring.sk4.D) (kn : slices_heapSortOrdered_Sstring.sk4.D → Option R) (kx : XD slices_heapSortOrdered_Sstring.xs4 → Option R) : roundK (slices_heapSortOrdered_Sstring.cfg N) N (nthLoop (fnBody Try.f15) 0) slices_heapSortOrdered_Sstring.sk4 slices_heapSortOrdered_Sstring.xs4 d kn kx = slices_heapSortOrdered_Sstring.l4 N d kn kx := by kernel_rfl
theorem slices_heapSortOrdered_Sstring.i4 (N : Nat) : LoopsOk Try.prog (slices_heapSortOrdered_Sstring.cfg N) (nthLoop (fnBody Try.f15) 0) := loopsL (l := []) (by kernel_rfl) trivial
theorem slices_heapSortOrdered_Sstring.o4 (N : Nat) : LoopOk Try.prog (nthLoop (fnBody Try.f15) 0) (loopCon N slices_heapSortOrdered_Sstring.sk4 slices_heapSortOrdered_Sstring.xs4 (fun {R} => slices_heapSortOrdered_Sstring.l4 (R := R) N)) := loop_ok (g := slices_heapSortOrdered_Sstring.cfg N) tys_ok (slices_heapSortOrdered_Sstring.cons N) mixed (slices_heapSortOrdered_Sstring.i4 N) (fun d kn kx => slices_heapSortOrdered_Sstring.h4 N d kn kx)
theorem slices_heapSortOrdered_Sstring.ls (N : Nat) : LoopsOk Try.prog (slices_heapSortOrdered_Sstring.cfg N) (fnBody Try.f15) := loopsL (l := [nthLoop (fnBody Try.f15) 0, nthLoop (fnBody Try.f15) 1]) (by kernel_rfl) ⟨loopOne (L0 := loopCon N slices_heapSortOrdered_Sstring.sk4 slices_heapSortOrdered_Sstring.xs4 (fun {R} => slices_heapSortOrdered_Sstring.l4 (R := R) N)) (id := 4) (by kernel_rfl) (by kernel_rfl) (slices_heapSortOrdered_Sstring.o4 N), ⟨loopOne (L0 := loopCon N slices_heapSortOrdered_Sstring.sk8 slices_heapSortOrdered_Sstring.xs8 (fun {R} => slices_heapSortOrdered_Sstring.l8 (R := R) N)) (id := 8) (by kernel_rfl) (by kernel_rfl) (slices_heapSortOrdered_Sstring.o8 N), trivial⟩⟩
theorem slices_heapSortOrdered_Sstring.q8 {R R' : Type} {N n : Nat} {d} {k} {g : R → Option R'} : bindF (loopP (slices_heapSortOrdered_Sstring.l8 N) n d k) g = loopP (slices_heapSortOrdered_Sstring.l8 N) n d fun e => bindF (k e) g := bindF_loopP (fun d kn kx => by simp only [slices_heapSortOrdered_Sstring.l8, bindF_ifB, bindF_bindO, bindF_pure, bindF_none, bindF_onSum]) n d k
theorem slices_heapSortOrdered_Sstring.q4 {R R' : Type} {N n : Nat} {d} {k} {g : R → Option R'} : bindF (loopP (slices_heapSortOrdered_Sstring.l4 N) n d k) g = loopP (slices_heapSortOrdered_Sstring.l4 N) n d fun e => bindF (k e) g := bindF_loopP (fun d kn kx => by simp only [slices_heapSortOrdered_Sstring.l4, bindF_ifB, bindF_bindO, bindF_pure, bindF_none, bindF_onSum]) n d k
theorem slices_heapSortOrdered_Sstring.b (N : Nat) (x0 : den (.sl 9 .str)) (x1 : den (.int .i64)) (x2 : den (.int .i64)) : body (slices_heapSortOrdered_Sstring.cfg N) N Try.f15 [.one, .one, .one] [.iov, .v, .v] [] [⟨(.sl 9 .str), (.own .imm), x0⟩, ⟨(.int .i64), .imm, x1⟩, ⟨(.int .i64), .imm, x2⟩] (fun r i => some (r, i)) = bindO (slices_heapSortOrdered_Sstring N x0 x1 x2) fun r => some ([], [⟨(.sl 9 .str), (.own .imm), r⟩]) := by
  show _ = bindF _ _
  conv => rhs; simp only [slices_heapSortOrdered_Sstring, bindF_ifB, bindF_bindO, bindF_pure, bindF_none, bindF_onSum, slices_heapSortOrdered_Sstring.q4, slices_heapSortOrdered_Sstring.q8]
  kernel_rfl
theorem slices_heapSortOrdered_Sstring.ok (N : Nat) : ConOk Try.prog 15 [.one, .one, .one] (slices_heapSortOrdered_Sstring.con N) := ok3 (g := slices_heapSortOrdered_Sstring.cfg N) (N := N) (res := []) tys_ok (slices_heapSortOrdered_Sstring.cons N) mixed Try.func15 (slices_heapSortOrdered_Sstring.ls N) rfl (slices_heapSortOrdered_Sstring.b N)
theorem slices_heapSortOrdered_Sstring.det (N : Nat) : ConDet (slices_heapSortOrdered_Sstring.con N) := det3
def slices_nextPowerOfTwo.con (N : Nat) : Con := { modes := [.v], ptrs := [false], fn := fn1 (.int .i64) .imm (slices_nextPowerOfTwo N) (fun r => [⟨(.int .u64), .imm, r⟩]) (fun r => []) }
def slices_nextPowerOfTwo.cfg (N : Nat) : Cfg := { ty := tys, keep := [5], flt := [], elm := elm0, live := [], ord := [], con := [((13, [.one]), math_bits_Len.con N)], loops := [], joins := [] }
theorem slices_nextPowerOfTwo.cons (N : Nat) : ConsOk Try.prog (slices_nextPowerOfTwo.cfg N).con := (consOk_cons (hb13) (math_bits_Len.ok N) (math_bits_Len.det N) consOk_nil)
theorem slices_nextPowerOfTwo.ls (N : Nat) : LoopsOk Try.prog (slices_nextPowerOfTwo.cfg N) (fnBody Try.f26) := loopsL (l := []) (by kernel_rfl) trivial
theorem slices_nextPowerOfTwo.b (N : Nat) (x0 : den (.int .i64)) : body (slices_nextPowerOfTwo.cfg N) N Try.f26 [.one] [.v] [(false, .imm)] [⟨(.int .i64), .imm, x0⟩] (fun r i => some (r, i)) = bindO (slices_nextPowerOfTwo N x0) fun r => some ([⟨(.int .u64), .imm, r⟩], []) := by
  show _ = bindF _ _
  conv => rhs; simp only [slices_nextPowerOfTwo, bindF_ifB, bindF_bindO, bindF_pure, bindF_none, bindF_onSum]
  kernel_rfl
theorem slices_nextPowerOfTwo.ok (N : Nat) : ConOk Try.prog 26 [.one] (slices_nextPowerOfTwo.con N) := ok1 (g := slices_nextPowerOfTwo.cfg N) (N := N) (res := [(false, .imm)]) tys_ok (slices_nextPowerOfTwo.cons N) mixed Try.func26 (slices_nextPowerOfTwo.ls N) rfl (slices_nextPowerOfTwo.b N)
theorem slices_nextPowerOfTwo.det (N : Nat) : ConDet (slices_nextPowerOfTwo.con N) := det1
def slices_xorshift_Next.con (N : Nat) : Con := { modes := [.io], ptrs := [false], fn := fn1 (.int .u64) .imm (slices_xorshift_Next N) (fun r => [⟨(.int .u64), .imm, r.1⟩]) (fun r => [⟨(.int .u64), .imm, r.2⟩]) }
def slices_xorshift_Next.cfg (N : Nat) : Cfg := { ty := tys, keep := [], flt := [], elm := elm0, live := [], ord := [(1, [0, 1, 2, 3, 4, 5, 6, 7, 8, 9]), (2, [0, 1, 2, 3, 4, 5, 6, 7, 8, 9]), (3, [0, 1, 2, 3, 4, 5, 6, 7, 8, 9])], con := [], loops := [], joins := [] }
theorem slices_xorshift_Next.cons (N : Nat) : ConsOk Try.prog (slices_xorshift_Next.cfg N).con := consOk_nil
theorem slices_xorshift_Next.ls (N : Nat) : LoopsOk Try.prog (slices_xorshift_Next.cfg N) (fnBody Try.f27) := loopsL (l := []) (by kernel_rfl) trivial
theorem slices_xorshift_Next.b (N : Nat) (x0 : den (.int .u64)) : body (slices_xorshift_Next.cfg N) N Try.f27 [.one] [.io] [(false, .imm)] [⟨(.int .u64), .imm, x0⟩] (fun r i => some (r, i)) = bindO (slices_xorshift_Next N x0) fun r => some ([⟨(.int .u64), .imm, r.1⟩], [⟨(.int .u64), .imm, r.2⟩]) := by
  show _ = bindF _ _
  conv => rhs; simp only [slices_xorshift_Next, bindF_ifB, bindF_bindO, bindF_pure, bindF_none, bindF_onSum]
  kernel_rfl
theorem slices_xorshift_Next.ok (N : Nat) : ConOk Try.prog 27 [.one] (slices_xorshift_Next.con N) := ok1 (g := slices_xorshift_Next.cfg N) (N := N) (res := [(false, .imm)]) tys_ok (slices_xorshift_Next.cons N) mixed Try.func27 (slices_xorshift_Next.ls N) rfl (slices_xorshift_Next.b N)
theorem slices_xorshift_Next.det (N : Nat) : ConDet (slices_xorshift_Next.con N) := det1
end Go.AE.F
end
