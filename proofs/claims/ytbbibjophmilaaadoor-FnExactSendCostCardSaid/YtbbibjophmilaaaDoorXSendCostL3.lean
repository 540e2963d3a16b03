/- The printed functions are what the program comes to: contracts. -/
import Derived.Test.YtbbibjophmilaaaDoorXSendCostL2
noncomputable section
namespace Go.AE.F
open Go.AE Go.Proofs Go.Lib
set_option maxRecDepth 100000
def slices_Equal_Sint64_int64.sk4 : Skel := ⟨.pv s38 :: (.pv s38 :: (dd 10 (.pv (.int .i64) :: (.pv (.int .i64) :: (dd 12 []))))), []⟩
def slices_Equal_Sint64_int64.xs4 : List XS := [⟨.exit 0, [], ⟨dd 26 [], []⟩⟩, ⟨.ret, [4], ⟨dd 4 (.pv .bool :: (dd 21 [])), []⟩⟩]
def slices_Equal_Sint64_int64.con (N : Nat) : Con := { modes := [.v, .v], ptrs := [false], fn := fn2 s38 .imm s38 .imm (slices_Equal_Sint64_int64 N) (fun r => [⟨.bool, .imm, r⟩]) (fun r => []) }
def slices_Equal_Sint64_int64.cfg (N : Nat) : Cfg := { ty := tys, keep := [], flt := [], elm := elm0, live := [(4, [0, 1, 12, 13])], ord := [(6, [0, 1, 2, 3, 4, 5, 6, 7, 8])], con := [], loops := [(4, loopCon N slices_Equal_Sint64_int64.sk4 slices_Equal_Sint64_int64.xs4 (fun {R} => slices_Equal_Sint64_int64.l4 (R := R) N))], joins := [] }
theorem slices_Equal_Sint64_int64.cons (N : Nat) : ConsOk Tryd.prog (slices_Equal_Sint64_int64.cfg N).con := consOk_nil
theorem slices_Equal_Sint64_int64.h4 {R : Type} (N : Nat) (d : slices_Equal_Sint64_int64.sk4.D) (kn : slices_Equal_Sint64_int64.sk4.D → Option R) (kx : XD slices_Equal_Sint64_int64.xs4 → Option R) : roundK (slices_Equal_Sint64_int64.cfg N) N (nthLoop (fnBody Tryd.f39) 0) slices_Equal_Sint64_int64.sk4 slices_Equal_Sint64_int64.xs4 d kn kx = slices_Equal_Sint64_int64.l4 N d kn kx := by kernel_rfl
theorem slices_Equal_Sint64_int64.i4 (N : Nat) : LoopsOk Tryd.prog (slices_Equal_Sint64_int64.cfg N) (nthLoop (fnBody Tryd.f39) 0) := loopsL (l := []) (by kernel_rfl) trivial
theorem slices_Equal_Sint64_int64.o4 (N : Nat) : LoopOk Tryd.prog (nthLoop (fnBody Tryd.f39) 0) (loopCon N slices_Equal_Sint64_int64.sk4 slices_Equal_Sint64_int64.xs4 (fun {R} => slices_Equal_Sint64_int64.l4 (R := R) N)) := loop_ok (g := slices_Equal_Sint64_int64.cfg N) tys_ok (slices_Equal_Sint64_int64.cons N) mixed (slices_Equal_Sint64_int64.i4 N) (fun d kn kx => slices_Equal_Sint64_int64.h4 N d kn kx)
theorem slices_Equal_Sint64_int64.ls (N : Nat) : LoopsOk Tryd.prog (slices_Equal_Sint64_int64.cfg N) (fnBody Tryd.f39) := loopsL (l := [nthLoop (fnBody Tryd.f39) 0]) (by kernel_rfl) ⟨loopOne (L0 := loopCon N slices_Equal_Sint64_int64.sk4 slices_Equal_Sint64_int64.xs4 (fun {R} => slices_Equal_Sint64_int64.l4 (R := R) N)) (id := 4) (by kernel_rfl) (by kernel_rfl) (slices_Equal_Sint64_int64.o4 N), trivial⟩
theorem slices_Equal_Sint64_int64.q4 {R R' : Type} {N n : Nat} {d} {k} {g : R → Option R'} : bindF (loopP (slices_Equal_Sint64_int64.l4 N) n d k) g = loopP (slices_Equal_Sint64_int64.l4 N) n d fun e => bindF (k e) g := bindF_loopP (fun d kn kx => by simp only [slices_Equal_Sint64_int64.l4, bindF_ifB, bindF_bindO, bindF_pure, bindF_none, bindF_onSum]) n d k
theorem slices_Equal_Sint64_int64.b (N : Nat) (x0 : den s38) (x1 : den s38) : body (slices_Equal_Sint64_int64.cfg N) N Tryd.f39 [.one, .one] [.v, .v] [(false, .imm)] [⟨s38, .imm, x0⟩, ⟨s38, .imm, x1⟩] (fun r i => some (r, i)) = bindO (slices_Equal_Sint64_int64 N x0 x1) fun r => some ([⟨.bool, .imm, r⟩], []) := by
  show _ = bindF _ _
  conv => rhs; simp only [slices_Equal_Sint64_int64, bindF_ifB, bindF_bindO, bindF_pure, bindF_none, bindF_onSum, slices_Equal_Sint64_int64.q4]
  kernel_rfl
theorem slices_Equal_Sint64_int64.ok (N : Nat) : ConOk Tryd.prog 39 [.one, .one] (slices_Equal_Sint64_int64.con N) := ok2 (g := slices_Equal_Sint64_int64.cfg N) (N := N) (res := [(false, .imm)]) tys_ok (slices_Equal_Sint64_int64.cons N) mixed Tryd.func39 (slices_Equal_Sint64_int64.ls N) rfl (slices_Equal_Sint64_int64.b N)
theorem slices_Equal_Sint64_int64.det (N : Nat) : ConDet (slices_Equal_Sint64_int64.con N) := det2
def impl_sameCells_c1.con (N : Nat) : Con := { modes := [.v, .v], ptrs := [false], fn := fn2 s39 .imm s39 .imm (impl_sameCells_c1 N) (fun r => [⟨.bool, .imm, r⟩]) (fun r => []) }
def impl_sameCells_c1.cfg (N : Nat) : Cfg := { ty := tys, keep := [15], flt := [], elm := elm0, live := [], ord := [], con := [((39, [.one, .one]), slices_Equal_Sint64_int64.con N)], loops := [], joins := [] }
theorem impl_sameCells_c1.cons (N : Nat) : ConsOk Tryd.prog (impl_sameCells_c1.cfg N).con := (consOk_cons (hb39) (slices_Equal_Sint64_int64.ok N) (slices_Equal_Sint64_int64.det N) consOk_nil)
theorem impl_sameCells_c1.ls (N : Nat) : LoopsOk Tryd.prog (impl_sameCells_c1.cfg N) (fnBody Tryd.f38) := loopsL (l := []) (by kernel_rfl) trivial
theorem impl_sameCells_c1.b (N : Nat) (x0 : den s39) (x1 : den s39) : body (impl_sameCells_c1.cfg N) N Tryd.f38 [.one, .one] [.v, .v] [(false, .imm)] [⟨s39, .imm, x0⟩, ⟨s39, .imm, x1⟩] (fun r i => some (r, i)) = bindO (impl_sameCells_c1 N x0 x1) fun r => some ([⟨.bool, .imm, r⟩], []) := by
  show _ = bindF _ _
  conv => rhs; simp only [impl_sameCells_c1, bindF_ifB, bindF_bindO, bindF_pure, bindF_none, bindF_onSum]
  kernel_rfl
theorem impl_sameCells_c1.ok (N : Nat) : ConOk Tryd.prog 38 [.one, .one] (impl_sameCells_c1.con N) := ok2 (g := impl_sameCells_c1.cfg N) (N := N) (res := [(false, .imm)]) tys_ok (impl_sameCells_c1.cons N) mixed Tryd.func38 (impl_sameCells_c1.ls N) rfl (impl_sameCells_c1.b N)
theorem impl_sameCells_c1.det (N : Nat) : ConDet (impl_sameCells_c1.con N) := det2
def slices_EqualFunc_Simpl_Cell__Simpl_Cell_impl_Cell_impl_Cell__impl_sameCells_c1.sk4 : Skel := ⟨dd 1 (.pv s27 :: (.fn 38 [] :: (dd 12 (.pv s27 :: (.pv (.int .i64) :: (.pv (.int .i64) :: (dd 14 []))))))), []⟩
def slices_EqualFunc_Simpl_Cell__Simpl_Cell_impl_Cell_impl_Cell__impl_sameCells_c1.xs4 : List XS := [⟨.exit 0, [], ⟨dd 32 [], []⟩⟩, ⟨.ret, [6], ⟨dd 6 (.pv .bool :: (dd 25 [])), []⟩⟩]
def slices_EqualFunc_Simpl_Cell__Simpl_Cell_impl_Cell_impl_Cell__impl_sameCells_c1.con (N : Nat) : Con := { modes := [.v, .v], ptrs := [false], fn := fn2 s27 .imm s27 .imm (slices_EqualFunc_Simpl_Cell__Simpl_Cell_impl_Cell_impl_Cell__impl_sameCells_c1 N) (fun r => [⟨.bool, .imm, r⟩]) (fun r => []) }
def slices_EqualFunc_Simpl_Cell__Simpl_Cell_impl_Cell_impl_Cell__impl_sameCells_c1.cfg (N : Nat) : Cfg := { ty := tys, keep := [29], flt := [], elm := elm0, live := [(4, [1, 2, 15, 16, 17])], ord := [], con := [((38, [.one, .one]), impl_sameCells_c1.con N)], loops := [(4, loopCon N slices_EqualFunc_Simpl_Cell__Simpl_Cell_impl_Cell_impl_Cell__impl_sameCells_c1.sk4 slices_EqualFunc_Simpl_Cell__Simpl_Cell_impl_Cell_impl_Cell__impl_sameCells_c1.xs4 (fun {R} => slices_EqualFunc_Simpl_Cell__Simpl_Cell_impl_Cell_impl_Cell__impl_sameCells_c1.l4 (R := R) N))], joins := [] }
theorem slices_EqualFunc_Simpl_Cell__Simpl_Cell_impl_Cell_impl_Cell__impl_sameCells_c1.cons (N : Nat) : ConsOk Tryd.prog (slices_EqualFunc_Simpl_Cell__Simpl_Cell_impl_Cell_impl_Cell__impl_sameCells_c1.cfg N).con := (consOk_cons (hb38) (impl_sameCells_c1.ok N) (impl_sameCells_c1.det N) consOk_nil)
theorem slices_EqualFunc_Simpl_Cell__Simpl_Cell_impl_Cell_impl_Cell__impl_sameCells_c1.h4 {R : Type} (N : Nat) (d : slices_EqualFunc_Simpl_Cell__Simpl_Cell_impl_Cell_impl_Cell__impl_sameCells_c1.sk4.D) (kn : slices_EqualFunc_Simpl_Cell__Simpl_Cell_impl_Cell_impl_Cell__impl_sameCells_c1.sk4.D → Option R) (kx : XD slices_EqualFunc_Simpl_Cell__Simpl_Cell_impl_Cell_impl_Cell__impl_sameCells_c1.xs4 → Option R) : roundK (slices_EqualFunc_Simpl_Cell__Simpl_Cell_impl_Cell_impl_Cell__impl_sameCells_c1.cfg N) N (nthLoop (fnBody Tryd.f37) 0) slices_EqualFunc_Simpl_Cell__Simpl_Cell_impl_Cell_impl_Cell__impl_sameCells_c1.sk4 slices_EqualFunc_Simpl_Cell__Simpl_Cell_impl_Cell_impl_Cell__impl_sameCells_c1.xs4 d kn kx = slices_EqualFunc_Simpl_Cell__Simpl_Cell_impl_Cell_impl_Cell__impl_sameCells_c1.l4 N d kn kx := by kernel_rfl
theorem slices_EqualFunc_Simpl_Cell__Simpl_Cell_impl_Cell_impl_Cell__impl_sameCells_c1.i4 (N : Nat) : LoopsOk Tryd.prog (slices_EqualFunc_Simpl_Cell__Simpl_Cell_impl_Cell_impl_Cell__impl_sameCells_c1.cfg N) (nthLoop (fnBody Tryd.f37) 0) := loopsL (l := []) (by kernel_rfl) trivial
theorem slices_EqualFunc_Simpl_Cell__Simpl_Cell_impl_Cell_impl_Cell__impl_sameCells_c1.o4 (N : Nat) : LoopOk Tryd.prog (nthLoop (fnBody Tryd.f37) 0) (loopCon N slices_EqualFunc_Simpl_Cell__Simpl_Cell_impl_Cell_impl_Cell__impl_sameCells_c1.sk4 slices_EqualFunc_Simpl_Cell__Simpl_Cell_impl_Cell_impl_Cell__impl_sameCells_c1.xs4 (fun {R} => slices_EqualFunc_Simpl_Cell__Simpl_Cell_impl_Cell_impl_Cell__impl_sameCells_c1.l4 (R := R) N)) := loop_ok (g := slices_EqualFunc_Simpl_Cell__Simpl_Cell_impl_Cell_impl_Cell__impl_sameCells_c1.cfg N) tys_ok (slices_EqualFunc_Simpl_Cell__Simpl_Cell_impl_Cell_impl_Cell__impl_sameCells_c1.cons N) mixed (slices_EqualFunc_Simpl_Cell__Simpl_Cell_impl_Cell_impl_Cell__impl_sameCells_c1.i4 N) (fun d kn kx => slices_EqualFunc_Simpl_Cell__Simpl_Cell_impl_Cell_impl_Cell__impl_sameCells_c1.h4 N d kn kx)
theorem slices_EqualFunc_Simpl_Cell__Simpl_Cell_impl_Cell_impl_Cell__impl_sameCells_c1.ls (N : Nat) : LoopsOk Tryd.prog (slices_EqualFunc_Simpl_Cell__Simpl_Cell_impl_Cell_impl_Cell__impl_sameCells_c1.cfg N) (fnBody Tryd.f37) := loopsL (l := [nthLoop (fnBody Tryd.f37) 0]) (by kernel_rfl) ⟨loopOne (L0 := loopCon N slices_EqualFunc_Simpl_Cell__Simpl_Cell_impl_Cell_impl_Cell__impl_sameCells_c1.sk4 slices_EqualFunc_Simpl_Cell__Simpl_Cell_impl_Cell_impl_Cell__impl_sameCells_c1.xs4 (fun {R} => slices_EqualFunc_Simpl_Cell__Simpl_Cell_impl_Cell_impl_Cell__impl_sameCells_c1.l4 (R := R) N)) (id := 4) (by kernel_rfl) (by kernel_rfl) (slices_EqualFunc_Simpl_Cell__Simpl_Cell_impl_Cell_impl_Cell__impl_sameCells_c1.o4 N), trivial⟩
theorem slices_EqualFunc_Simpl_Cell__Simpl_Cell_impl_Cell_impl_Cell__impl_sameCells_c1.q4 {R R' : Type} {N n : Nat} {d} {k} {g : R → Option R'} : bindF (loopP (slices_EqualFunc_Simpl_Cell__Simpl_Cell_impl_Cell_impl_Cell__impl_sameCells_c1.l4 N) n d k) g = loopP (slices_EqualFunc_Simpl_Cell__Simpl_Cell_impl_Cell_impl_Cell__impl_sameCells_c1.l4 N) n d fun e => bindF (k e) g := bindF_loopP (fun d kn kx => by simp only [slices_EqualFunc_Simpl_Cell__Simpl_Cell_impl_Cell_impl_Cell__impl_sameCells_c1.l4, bindF_ifB, bindF_bindO, bindF_pure, bindF_none, bindF_onSum]) n d k
theorem slices_EqualFunc_Simpl_Cell__Simpl_Cell_impl_Cell_impl_Cell__impl_sameCells_c1.b (N : Nat) (x0 : den s27) (x1 : den s27) : body (slices_EqualFunc_Simpl_Cell__Simpl_Cell_impl_Cell_impl_Cell__impl_sameCells_c1.cfg N) N Tryd.f37 [.one, .one, .fn 38 0] [.v, .v] [(false, .imm)] [⟨s27, .imm, x0⟩, ⟨s27, .imm, x1⟩] (fun r i => some (r, i)) = bindO (slices_EqualFunc_Simpl_Cell__Simpl_Cell_impl_Cell_impl_Cell__impl_sameCells_c1 N x0 x1) fun r => some ([⟨.bool, .imm, r⟩], []) := by
  show _ = bindF _ _
  conv => rhs; simp only [slices_EqualFunc_Simpl_Cell__Simpl_Cell_impl_Cell_impl_Cell__impl_sameCells_c1, bindF_ifB, bindF_bindO, bindF_pure, bindF_none, bindF_onSum, slices_EqualFunc_Simpl_Cell__Simpl_Cell_impl_Cell_impl_Cell__impl_sameCells_c1.q4]
  kernel_rfl
theorem slices_EqualFunc_Simpl_Cell__Simpl_Cell_impl_Cell_impl_Cell__impl_sameCells_c1.ok (N : Nat) : ConOk Tryd.prog 37 [.one, .one, .fn 38 0] (slices_EqualFunc_Simpl_Cell__Simpl_Cell_impl_Cell_impl_Cell__impl_sameCells_c1.con N) := ok2 (g := slices_EqualFunc_Simpl_Cell__Simpl_Cell_impl_Cell_impl_Cell__impl_sameCells_c1.cfg N) (N := N) (res := [(false, .imm)]) tys_ok (slices_EqualFunc_Simpl_Cell__Simpl_Cell_impl_Cell_impl_Cell__impl_sameCells_c1.cons N) mixed Tryd.func37 (slices_EqualFunc_Simpl_Cell__Simpl_Cell_impl_Cell_impl_Cell__impl_sameCells_c1.ls N) rfl (slices_EqualFunc_Simpl_Cell__Simpl_Cell_impl_Cell_impl_Cell__impl_sameCells_c1.b N)
theorem slices_EqualFunc_Simpl_Cell__Simpl_Cell_impl_Cell_impl_Cell__impl_sameCells_c1.det (N : Nat) : ConDet (slices_EqualFunc_Simpl_Cell__Simpl_Cell_impl_Cell_impl_Cell__impl_sameCells_c1.con N) := det2
def impl_sameCells.con (N : Nat) : Con := { modes := [.v, .v], ptrs := [false], fn := fn2 s27 .imm s27 .imm (impl_sameCells N) (fun r => [⟨.bool, .imm, r⟩]) (fun r => []) }
def impl_sameCells.cfg (N : Nat) : Cfg := { ty := tys, keep := [7], flt := [], elm := elm0, live := [], ord := [], con := [((37, [.one, .one, .fn 38 0]), slices_EqualFunc_Simpl_Cell__Simpl_Cell_impl_Cell_impl_Cell__impl_sameCells_c1.con N)], loops := [], joins := [] }
theorem impl_sameCells.cons (N : Nat) : ConsOk Tryd.prog (impl_sameCells.cfg N).con := (consOk_cons (hb37) (slices_EqualFunc_Simpl_Cell__Simpl_Cell_impl_Cell_impl_Cell__impl_sameCells_c1.ok N) (slices_EqualFunc_Simpl_Cell__Simpl_Cell_impl_Cell_impl_Cell__impl_sameCells_c1.det N) consOk_nil)
theorem impl_sameCells.ls (N : Nat) : LoopsOk Tryd.prog (impl_sameCells.cfg N) (fnBody Tryd.f21) := loopsL (l := []) (by kernel_rfl) trivial
theorem impl_sameCells.b (N : Nat) (x0 : den s27) (x1 : den s27) : body (impl_sameCells.cfg N) N Tryd.f21 [.one, .one] [.v, .v] [(false, .imm)] [⟨s27, .imm, x0⟩, ⟨s27, .imm, x1⟩] (fun r i => some (r, i)) = bindO (impl_sameCells N x0 x1) fun r => some ([⟨.bool, .imm, r⟩], []) := by
  show _ = bindF _ _
  conv => rhs; simp only [impl_sameCells, bindF_ifB, bindF_bindO, bindF_pure, bindF_none, bindF_onSum]
  kernel_rfl
theorem impl_sameCells.ok (N : Nat) : ConOk Tryd.prog 21 [.one, .one] (impl_sameCells.con N) := ok2 (g := impl_sameCells.cfg N) (N := N) (res := [(false, .imm)]) tys_ok (impl_sameCells.cons N) mixed Tryd.func21 (impl_sameCells.ls N) rfl (impl_sameCells.b N)
theorem impl_sameCells.det (N : Nat) : ConDet (impl_sameCells.con N) := det2
def internal_strconv_small.con (N : Nat) : Con := { modes := [.v], ptrs := [false], fn := fn1 (.int .i64) .imm (internal_strconv_small N) (fun r => [⟨.str, .imm, r⟩]) (fun r => []) }
def internal_strconv_small.cfg (N : Nat) : Cfg := { ty := tys, keep := [], flt := [], elm := elm0, live := [], ord := [], con := [], loops := [], joins := [] }
theorem internal_strconv_small.cons (N : Nat) : ConsOk Tryd.prog (internal_strconv_small.cfg N).con := consOk_nil
theorem internal_strconv_small.ls (N : Nat) : LoopsOk Tryd.prog (internal_strconv_small.cfg N) (fnBody Tryd.f63) := loopsL (l := []) (by kernel_rfl) trivial
theorem internal_strconv_small.b (N : Nat) (x0 : den (.int .i64)) : body (internal_strconv_small.cfg N) N Tryd.f63 [.one] [.v] [(false, .imm)] [⟨(.int .i64), .imm, x0⟩] (fun r i => some (r, i)) = bindO (internal_strconv_small N x0) fun r => some ([⟨.str, .imm, r⟩], []) := by
  show _ = bindF _ _
  conv => rhs; simp only [internal_strconv_small, bindF_ifB, bindF_bindO, bindF_pure, bindF_none, bindF_onSum]
  kernel_rfl
theorem internal_strconv_small.ok (N : Nat) : ConOk Tryd.prog 63 [.one] (internal_strconv_small.con N) := ok1 (g := internal_strconv_small.cfg N) (N := N) (res := [(false, .imm)]) tys_ok (internal_strconv_small.cons N) mixed Tryd.func63 (internal_strconv_small.ls N) rfl (internal_strconv_small.b N)
theorem internal_strconv_small.det (N : Nat) : ConDet (internal_strconv_small.con N) := det1
def internal_strconv_FormatInt.con (N : Nat) : Con := { modes := [.v, .v], ptrs := [false], fn := fn2 (.int .i64) .imm (.int .i64) .imm (internal_strconv_FormatInt N) (fun r => [⟨.str, .imm, r⟩]) (fun r => []) }
def internal_strconv_FormatInt.cfg (N : Nat) : Cfg := { ty := tys, keep := [19, 27, 32, 50], flt := [], elm := elm0, live := [], ord := [], con := [((63, [.one]), internal_strconv_small.con N)], loops := [], joins := [] }
theorem internal_strconv_FormatInt.cons (N : Nat) : ConsOk Tryd.prog (internal_strconv_FormatInt.cfg N).con := (consOk_cons (hb63) (internal_strconv_small.ok N) (internal_strconv_small.det N) consOk_nil)
theorem internal_strconv_FormatInt.ls (N : Nat) : LoopsOk Tryd.prog (internal_strconv_FormatInt.cfg N) (fnBody Tryd.f61) := loopsL (l := []) (by kernel_rfl) trivial
theorem internal_strconv_FormatInt.b (N : Nat) (x0 : den (.int .i64)) (x1 : den (.int .i64)) : body (internal_strconv_FormatInt.cfg N) N Tryd.f61 [.one, .one] [.v, .v] [(false, .imm)] [⟨(.int .i64), .imm, x0⟩, ⟨(.int .i64), .imm, x1⟩] (fun r i => some (r, i)) = bindO (internal_strconv_FormatInt N x0 x1) fun r => some ([⟨.str, .imm, r⟩], []) := by
  show _ = bindF _ _
  conv => rhs; simp only [internal_strconv_FormatInt, bindF_ifB, bindF_bindO, bindF_pure, bindF_none, bindF_onSum]
  kernel_rfl
theorem internal_strconv_FormatInt.ok (N : Nat) : ConOk Tryd.prog 61 [.one, .one] (internal_strconv_FormatInt.con N) := ok2 (g := internal_strconv_FormatInt.cfg N) (N := N) (res := [(false, .imm)]) tys_ok (internal_strconv_FormatInt.cons N) mixed Tryd.func61 (internal_strconv_FormatInt.ls N) rfl (internal_strconv_FormatInt.b N)
theorem internal_strconv_FormatInt.det (N : Nat) : ConDet (internal_strconv_FormatInt.con N) := det2
def strconv_FormatInt.con (N : Nat) : Con := { modes := [.v, .v], ptrs := [false], fn := fn2 (.int .i64) .imm (.int .i64) .imm (strconv_FormatInt N) (fun r => [⟨.str, .imm, r⟩]) (fun r => []) }
def strconv_FormatInt.cfg (N : Nat) : Cfg := { ty := tys, keep := [7], flt := [], elm := elm0, live := [], ord := [], con := [((61, [.one, .one]), internal_strconv_FormatInt.con N)], loops := [], joins := [] }
theorem strconv_FormatInt.cons (N : Nat) : ConsOk Tryd.prog (strconv_FormatInt.cfg N).con := (consOk_cons (hb61) (internal_strconv_FormatInt.ok N) (internal_strconv_FormatInt.det N) consOk_nil)
theorem strconv_FormatInt.ls (N : Nat) : LoopsOk Tryd.prog (strconv_FormatInt.cfg N) (fnBody Tryd.f54) := loopsL (l := []) (by kernel_rfl) trivial
theorem strconv_FormatInt.b (N : Nat) (x0 : den (.int .i64)) (x1 : den (.int .i64)) : body (strconv_FormatInt.cfg N) N Tryd.f54 [.one, .one] [.v, .v] [(false, .imm)] [⟨(.int .i64), .imm, x0⟩, ⟨(.int .i64), .imm, x1⟩] (fun r i => some (r, i)) = bindO (strconv_FormatInt N x0 x1) fun r => some ([⟨.str, .imm, r⟩], []) := by
  show _ = bindF _ _
  conv => rhs; simp only [strconv_FormatInt, bindF_ifB, bindF_bindO, bindF_pure, bindF_none, bindF_onSum]
  kernel_rfl
theorem strconv_FormatInt.ok (N : Nat) : ConOk Tryd.prog 54 [.one, .one] (strconv_FormatInt.con N) := ok2 (g := strconv_FormatInt.cfg N) (N := N) (res := [(false, .imm)]) tys_ok (strconv_FormatInt.cons N) mixed Tryd.func54 (strconv_FormatInt.ls N) rfl (strconv_FormatInt.b N)
theorem strconv_FormatInt.det (N : Nat) : ConDet (strconv_FormatInt.con N) := det2
def impl_decimal.con (N : Nat) : Con := { modes := [.v], ptrs := [false], fn := fn1 (.int .i64) .imm (impl_decimal N) (fun r => [⟨.str, .imm, r⟩]) (fun r => []) }
def impl_decimal.cfg (N : Nat) : Cfg := { ty := tys, keep := [4], flt := [], elm := elm0, live := [], ord := [], con := [((54, [.one, .one]), strconv_FormatInt.con N)], loops := [], joins := [] }
theorem impl_decimal.cons (N : Nat) : ConsOk Tryd.prog (impl_decimal.cfg N).con := (consOk_cons (hb54) (strconv_FormatInt.ok N) (strconv_FormatInt.det N) consOk_nil)
theorem impl_decimal.ls (N : Nat) : LoopsOk Tryd.prog (impl_decimal.cfg N) (fnBody Tryd.f41) := loopsL (l := []) (by kernel_rfl) trivial
theorem impl_decimal.b (N : Nat) (x0 : den (.int .i64)) : body (impl_decimal.cfg N) N Tryd.f41 [.one] [.v] [(false, .imm)] [⟨(.int .i64), .imm, x0⟩] (fun r i => some (r, i)) = bindO (impl_decimal N x0) fun r => some ([⟨.str, .imm, r⟩], []) := by
  show _ = bindF _ _
  conv => rhs; simp only [impl_decimal, bindF_ifB, bindF_bindO, bindF_pure, bindF_none, bindF_onSum]
  kernel_rfl
theorem impl_decimal.ok (N : Nat) : ConOk Tryd.prog 41 [.one] (impl_decimal.con N) := ok1 (g := impl_decimal.cfg N) (N := N) (res := [(false, .imm)]) tys_ok (impl_decimal.cons N) mixed Tryd.func41 (impl_decimal.ls N) rfl (impl_decimal.b N)
theorem impl_decimal.det (N : Nat) : ConDet (impl_decimal.con N) := det1
def impl_goTo.con (N : Nat) : Con := { modes := [.v, .v], ptrs := [false], fn := fn2 (.int .i64) .imm (.int .i64) .imm (impl_goTo N) (fun r => [⟨.str, .imm, r⟩]) (fun r => []) }
def impl_goTo.cfg (N : Nat) : Cfg := { ty := tys, keep := [7, 12], flt := [], elm := elm0, live := [], ord := [], con := [((41, [.one]), impl_decimal.con N)], loops := [], joins := [] }
theorem impl_goTo.cons (N : Nat) : ConsOk Tryd.prog (impl_goTo.cfg N).con := (consOk_cons (hb41) (impl_decimal.ok N) (impl_decimal.det N) consOk_nil)
theorem impl_goTo.ls (N : Nat) : LoopsOk Tryd.prog (impl_goTo.cfg N) (fnBody Tryd.f25) := loopsL (l := []) (by kernel_rfl) trivial
theorem impl_goTo.b (N : Nat) (x0 : den (.int .i64)) (x1 : den (.int .i64)) : body (impl_goTo.cfg N) N Tryd.f25 [.one, .one] [.v, .v] [(false, .imm)] [⟨(.int .i64), .imm, x0⟩, ⟨(.int .i64), .imm, x1⟩] (fun r i => some (r, i)) = bindO (impl_goTo N x0 x1) fun r => some ([⟨.str, .imm, r⟩], []) := by
  show _ = bindF _ _
  conv => rhs; simp only [impl_goTo, bindF_ifB, bindF_bindO, bindF_pure, bindF_none, bindF_onSum]
  kernel_rfl
theorem impl_goTo.ok (N : Nat) : ConOk Tryd.prog 25 [.one, .one] (impl_goTo.con N) := ok2 (g := impl_goTo.cfg N) (N := N) (res := [(false, .imm)]) tys_ok (impl_goTo.cons N) mixed Tryd.func25 (impl_goTo.ls N) rfl (impl_goTo.b N)
theorem impl_goTo.det (N : Nat) : ConDet (impl_goTo.con N) := det2
set_option maxHeartbeats 1000000 in
set_option maxRecDepth 100000 in
theorem blt_cc_used (b : Nat) (w : World) (h0 : w.cell? ⟨b, 0, none⟩ = some (.pointer (some ⟨b, 0, none⟩))) :
    Calls Tryd.prog 40 #[.pointer (some ⟨b, 0, none⟩)] w fun e w' => e = .returned (.tuple #[]) ∧ w' = w := by
  have hj0 : (Tryd.prog.info? 50).map (·.size) = some 2 := by kernel_rfl
  obtain ⟨j, hj, _⟩ := Option.map_eq_some_iff.1 hj0
  have mixed := mixed
  go_enter Tryd.func40, Tryd.ntmps40
  go_wp2
  rw [Go.Lib.run_neq_ptr_same w _ Tryd.underlying48 hj]
  go_wp2
  go_end0
  exact ⟨rfl, rfl⟩
set_option maxHeartbeats 1000000 in
set_option maxRecDepth 100000 in
theorem blt_cc_fresh (b : Nat) (w : World) (h0 : w.cell? ⟨b, 0, none⟩ = some (.pointer none)) (hsh : w.shape? b = some (50, 2)) (hfz : w.frozen? ⟨b, 0, none⟩ = false) :
    Calls Tryd.prog 40 #[.pointer (some ⟨b, 0, none⟩)] w fun e w' => e = .returned (.tuple #[]) ∧ w' = w.setCell ⟨b, 0, none⟩ (.pointer (some ⟨b, 0, none⟩)) := by
  have hj0 : (Tryd.prog.info? 50).map (·.size) = some 2 := by kernel_rfl
  have hlies : liesAt Tryd.prog Tryd.prog.depth 50 (2 / Tryd.prog.cellsOf 50) 0 50 1 = true := by kernel_rfl
  obtain ⟨j, hj, hjs⟩ := Option.map_eq_some_iff.1 hj0
  have mixed := mixed
  go_enter Tryd.func40, Tryd.ntmps40
  go_wp2
  rw [Go.Lib.run_to_unsafe w ⟨b, 0, none⟩ Tryd.underlying48 Tryd.underlying74 hj (by rw [hjs]; decide) hsh (Nat.zero_lt_succ 1)]
  simp only [Result.andThen]
  rw [Oper.upon_value]
  go_wp2
  rw [run_callFunc_extern Tryd.func53 (by kernel_rfl) (by kernel_rfl) (by kernel_rfl) (e := Extern.AbiNoEscape.same) (by kernel_rfl)]
  rw [Go.Lib.run_noEscape]
  simp only [Result.andThen]
  rw [Oper.upon_value]
  go_wp2
  rw [Go.Lib.run_from_unsafe w ⟨b, 0, none⟩ Tryd.underlying74 Tryd.underlying48 hj hsh hlies]
  simp only [Result.andThen]
  rw [Oper.upon_value]
  go_wp2
  go_end0
  exact ⟨rfl, rfl⟩
theorem blt_cc (m : Hp) (w : World) (b : Nat) (p : Value) (ad : Option Addr) (cap : Nat) (xs : List Int) (hR : Hp) (I : BltIn m w 50 5 b p ad cap xs hR) :
    Calls Tryd.prog 40 #[self b] w fun e w' => e = .returned (.tuple #[]) ∧ BltIn m w' 50 5 b (self b) ad cap xs hR ∧ Mod (blk b 0 [undef, undef]) w w' := by
  rcases I.p with h | h
  · subst h
    refine (blt_cc_fresh b w I.c0 I.shp (I.nf.at I.c0)).mono ?_
    rintro e w' ⟨rfl, rfl⟩
    exact ⟨rfl, I.checked (.inr ⟨rfl, rfl⟩)⟩
  · subst h
    refine (blt_cc_used b w I.c0).mono ?_
    rintro e w' ⟨rfl, rfl⟩
    exact ⟨rfl, I.checked (.inl ⟨rfl, rfl⟩)⟩
set_option maxHeartbeats 2000000 in
set_option maxRecDepth 100000 in
theorem strings_Builder_WriteString.run : BltRun Tryd.prog 22 50 5 0 := by
  intro m w b p ad cap xs hR s I hfit
  have mixed := mixed
  have ht : typeOk Tryd.prog 42 s42 = true := by kernel_rfl
  unfold self
  go_enter Tryd.func22, Tryd.ntmps22
  go_wp2_with (go_at_call 40; refine (blt_cc m w b p ad cap xs hR I).mono ?_)
  rintro e w1 ⟨rfl, I1, M1⟩
  have c0 := I1.c0
  have c1 := I1.c1
  obtain ⟨ad', cap', w2, hR', hrun, k0, k1, kf, M2, I2, dom, wh⟩ := I1.append (P := Tryd.prog) (ty := 42) ht Tryd.underlying9 hfit
  simp only [List.length_append] at hrun M2 I2
  go_wp2_with (at_builtin; refine Go.Lib.wpList_append_run _ rfl _ _ 42 9 rfl _ _ rfl rfl _ _ hrun ?_)
  go_wp2
  go_ret2
  refine ⟨_, ad', cap', hR', rfl, ?_, I2, ?_, ?_⟩
  · exact M1.un.trans M2
  · intro k o h
    exact (dom k o h).imp id fun q => Nat.le_trans M1.size q
  · exact wh.imp id fun ⟨q1, g, q2, q3⟩ => ⟨q1, g, q2, Nat.le_trans M1.size q3⟩
def strings_Builder_WriteString.con (N : Nat) : Con := { modes := [], ptrs := [], bl := some (50, 5, 0), fn := fun _ _ => none }
theorem strings_Builder_WriteString.ok (N : Nat) : ConOk Tryd.prog 22 [.one, .one] (strings_Builder_WriteString.con N) := ⟨fun h => (by cases h), fun b h => (by injection h with h; subst h; exact ⟨Tryd.zeroValue50, strings_Builder_WriteString.run⟩)⟩
theorem strings_Builder_WriteString.det (N : Nat) : ConDet (strings_Builder_WriteString.con N) := fun ds R k y h => by cases h
def unicode_utf8_appendRuneNonASCII.con (N : Nat) : Con := { modes := [.tk, .v], ptrs := [false], fn := fn2 s42 (.own .imm) (.int .i32) .imm (unicode_utf8_appendRuneNonASCII N) (fun r => [⟨s42, (.own .imm), r⟩]) (fun r => []) }
def unicode_utf8_appendRuneNonASCII.cfg (N : Nat) : Cfg := { ty := tys, keep := [], flt := [], elm := elm0, live := [], ord := [], con := [], loops := [], joins := [] }
theorem unicode_utf8_appendRuneNonASCII.cons (N : Nat) : ConsOk Tryd.prog (unicode_utf8_appendRuneNonASCII.cfg N).con := consOk_nil
theorem unicode_utf8_appendRuneNonASCII.ls (N : Nat) : LoopsOk Tryd.prog (unicode_utf8_appendRuneNonASCII.cfg N) (fnBody Tryd.f62) := loopsL (l := []) (by kernel_rfl) trivial
theorem unicode_utf8_appendRuneNonASCII.b (N : Nat) (x0 : den s42) (x1 : den (.int .i32)) : body (unicode_utf8_appendRuneNonASCII.cfg N) N Tryd.f62 [.one, .one] [.tk, .v] [(false, (.own .imm))] [⟨s42, (.own .imm), x0⟩, ⟨(.int .i32), .imm, x1⟩] (fun r i => some (r, i)) = bindO (unicode_utf8_appendRuneNonASCII N x0 x1) fun r => some ([⟨s42, (.own .imm), r⟩], []) := by
  show _ = bindF _ _
  conv => rhs; simp only [unicode_utf8_appendRuneNonASCII, bindF_ifB, bindF_bindO, bindF_pure, bindF_none, bindF_onSum]
  kernel_rfl
theorem unicode_utf8_appendRuneNonASCII.ok (N : Nat) : ConOk Tryd.prog 62 [.one, .one] (unicode_utf8_appendRuneNonASCII.con N) := ok2 (g := unicode_utf8_appendRuneNonASCII.cfg N) (N := N) (res := [(false, (.own .imm))]) tys_ok (unicode_utf8_appendRuneNonASCII.cons N) mixed Tryd.func62 (unicode_utf8_appendRuneNonASCII.ls N) rfl (unicode_utf8_appendRuneNonASCII.b N)
theorem unicode_utf8_appendRuneNonASCII.det (N : Nat) : ConDet (unicode_utf8_appendRuneNonASCII.con N) := det2
def unicode_utf8_AppendRune.con (N : Nat) : Con := { modes := [.tk, .v], ptrs := [false], fn := fn2 s42 (.own .imm) (.int .i32) .imm (unicode_utf8_AppendRune N) (fun r => [⟨s42, (.own .imm), r⟩]) (fun r => []) }
def unicode_utf8_AppendRune.cfg (N : Nat) : Cfg := { ty := tys, keep := [15], flt := [], elm := elm0, live := [], ord := [], con := [((62, [.one, .one]), unicode_utf8_appendRuneNonASCII.con N)], loops := [], joins := [] }
theorem unicode_utf8_AppendRune.cons (N : Nat) : ConsOk Tryd.prog (unicode_utf8_AppendRune.cfg N).con := (consOk_cons (hb62) (unicode_utf8_appendRuneNonASCII.ok N) (unicode_utf8_appendRuneNonASCII.det N) consOk_nil)
theorem unicode_utf8_AppendRune.ls (N : Nat) : LoopsOk Tryd.prog (unicode_utf8_AppendRune.cfg N) (fnBody Tryd.f55) := loopsL (l := []) (by kernel_rfl) trivial
theorem unicode_utf8_AppendRune.b (N : Nat) (x0 : den s42) (x1 : den (.int .i32)) : body (unicode_utf8_AppendRune.cfg N) N Tryd.f55 [.one, .one] [.tk, .v] [(false, (.own .imm))] [⟨s42, (.own .imm), x0⟩, ⟨(.int .i32), .imm, x1⟩] (fun r i => some (r, i)) = bindO (unicode_utf8_AppendRune N x0 x1) fun r => some ([⟨s42, (.own .imm), r⟩], []) := by
  show _ = bindF _ _
  conv => rhs; simp only [unicode_utf8_AppendRune, bindF_ifB, bindF_bindO, bindF_pure, bindF_none, bindF_onSum]
  kernel_rfl
theorem unicode_utf8_AppendRune.ok (N : Nat) : ConOk Tryd.prog 55 [.one, .one] (unicode_utf8_AppendRune.con N) := ok2 (g := unicode_utf8_AppendRune.cfg N) (N := N) (res := [(false, (.own .imm))]) tys_ok (unicode_utf8_AppendRune.cons N) mixed Tryd.func55 (unicode_utf8_AppendRune.ls N) rfl (unicode_utf8_AppendRune.b N)
theorem unicode_utf8_AppendRune.det (N : Nat) : ConDet (unicode_utf8_AppendRune.con N) := det2
end Go.AE.F
end
