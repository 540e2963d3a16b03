/- The printed functions are what the program comes to: contracts. -/
import Derived.Test.YteoociojgeokmaaDoorXSendL2
noncomputable section
namespace Go.AE.F
open Go.AE Go.Proofs Go.Lib
set_option maxRecDepth 100000
def impl_sameCells_c1.con (N : Nat) : Con := { modes := [.v, .v], ptrs := [false], fn := fn2 s37 .imm s37 .imm (impl_sameCells_c1 N) (fun r => [⟨.bool, .imm, r⟩]) (fun r => []) }
def impl_sameCells_c1.cfg (N : Nat) : Cfg := { ty := tys, keep := [15], flt := [], elm := elm0, live := [], ord := [], con := [((34, [.one, .one]), slices_Equal_Sint64_int64.con N)], loops := [], joins := [] }
theorem impl_sameCells_c1.cons (N : Nat) : ConsOk Tryd.prog (impl_sameCells_c1.cfg N).con := (consOk_cons (hb34) (slices_Equal_Sint64_int64.ok N) (slices_Equal_Sint64_int64.det N) consOk_nil)
theorem impl_sameCells_c1.ls (N : Nat) : LoopsOk Tryd.prog (impl_sameCells_c1.cfg N) (fnBody Tryd.f33) := loopsL (l := []) (by kernel_rfl) trivial
theorem impl_sameCells_c1.b (N : Nat) (x0 : den s37) (x1 : den s37) : body (impl_sameCells_c1.cfg N) N Tryd.f33 [.one, .one] [.v, .v] [(false, .imm)] [⟨s37, .imm, x0⟩, ⟨s37, .imm, x1⟩] (fun r i => some (r, i)) = bindO (impl_sameCells_c1 N x0 x1) fun r => some ([⟨.bool, .imm, r⟩], []) := by
  show _ = bindF _ _
  conv => rhs; simp only [impl_sameCells_c1, bindF_ifB, bindF_bindO, bindF_pure, bindF_none, bindF_onSum]
  kernel_rfl
theorem impl_sameCells_c1.ok (N : Nat) : ConOk Tryd.prog 33 [.one, .one] (impl_sameCells_c1.con N) := ok2 (g := impl_sameCells_c1.cfg N) (N := N) (res := [(false, .imm)]) tys_ok (impl_sameCells_c1.cons N) mixed Tryd.func33 (impl_sameCells_c1.ls N) rfl (impl_sameCells_c1.b N)
theorem impl_sameCells_c1.det (N : Nat) : ConDet (impl_sameCells_c1.con N) := det2
def slices_EqualFunc_Simpl_Cell__Simpl_Cell_impl_Cell_impl_Cell__impl_sameCells_c1.sk4 : Skel := ⟨dd 1 (.pv s27 :: (.fn 33 [] :: (dd 12 (.pv s27 :: (.pv (.int .i64) :: (.pv (.int .i64) :: (dd 14 []))))))), []⟩
def slices_EqualFunc_Simpl_Cell__Simpl_Cell_impl_Cell_impl_Cell__impl_sameCells_c1.xs4 : List XS := [⟨.exit 0, [], ⟨dd 32 [], []⟩⟩, ⟨.ret, [6], ⟨dd 6 (.pv .bool :: (dd 25 [])), []⟩⟩]
def slices_EqualFunc_Simpl_Cell__Simpl_Cell_impl_Cell_impl_Cell__impl_sameCells_c1.con (N : Nat) : Con := { modes := [.v, .v], ptrs := [false], fn := fn2 s27 .imm s27 .imm (slices_EqualFunc_Simpl_Cell__Simpl_Cell_impl_Cell_impl_Cell__impl_sameCells_c1 N) (fun r => [⟨.bool, .imm, r⟩]) (fun r => []) }
def slices_EqualFunc_Simpl_Cell__Simpl_Cell_impl_Cell_impl_Cell__impl_sameCells_c1.cfg (N : Nat) : Cfg := { ty := tys, keep := [29], flt := [], elm := elm0, live := [(4, [1, 2, 15, 16, 17])], ord := [], con := [((33, [.one, .one]), impl_sameCells_c1.con N)], loops := [(4, loopCon N slices_EqualFunc_Simpl_Cell__Simpl_Cell_impl_Cell_impl_Cell__impl_sameCells_c1.sk4 slices_EqualFunc_Simpl_Cell__Simpl_Cell_impl_Cell_impl_Cell__impl_sameCells_c1.xs4 (fun {R} => slices_EqualFunc_Simpl_Cell__Simpl_Cell_impl_Cell_impl_Cell__impl_sameCells_c1.l4 (R := R) N))], joins := [] }
theorem slices_EqualFunc_Simpl_Cell__Simpl_Cell_impl_Cell_impl_Cell__impl_sameCells_c1.cons (N : Nat) : ConsOk Tryd.prog (slices_EqualFunc_Simpl_Cell__Simpl_Cell_impl_Cell_impl_Cell__impl_sameCells_c1.cfg N).con := (consOk_cons (hb33) (impl_sameCells_c1.ok N) (impl_sameCells_c1.det N) consOk_nil)
theorem slices_EqualFunc_Simpl_Cell__Simpl_Cell_impl_Cell_impl_Cell__impl_sameCells_c1.h4 {R : Type} (N : Nat) (d : slices_EqualFunc_Simpl_Cell__Simpl_Cell_impl_Cell_impl_Cell__impl_sameCells_c1.sk4.D) (kn : slices_EqualFunc_Simpl_Cell__Simpl_Cell_impl_Cell_impl_Cell__impl_sameCells_c1.sk4.D → Option R) (kx : XD slices_EqualFunc_Simpl_Cell__Simpl_Cell_impl_Cell_impl_Cell__impl_sameCells_c1.xs4 → Option R) : roundK (slices_EqualFunc_Simpl_Cell__Simpl_Cell_impl_Cell_impl_Cell__impl_sameCells_c1.cfg N) N (nthLoop (fnBody Tryd.f32) 0) slices_EqualFunc_Simpl_Cell__Simpl_Cell_impl_Cell_impl_Cell__impl_sameCells_c1.sk4 slices_EqualFunc_Simpl_Cell__Simpl_Cell_impl_Cell_impl_Cell__impl_sameCells_c1.xs4 d kn kx = slices_EqualFunc_Simpl_Cell__Simpl_Cell_impl_Cell_impl_Cell__impl_sameCells_c1.l4 N d kn kx := by kernel_rfl
theorem slices_EqualFunc_Simpl_Cell__Simpl_Cell_impl_Cell_impl_Cell__impl_sameCells_c1.i4 (N : Nat) : LoopsOk Tryd.prog (slices_EqualFunc_Simpl_Cell__Simpl_Cell_impl_Cell_impl_Cell__impl_sameCells_c1.cfg N) (nthLoop (fnBody Tryd.f32) 0) := loopsL (l := []) (by kernel_rfl) trivial
theorem slices_EqualFunc_Simpl_Cell__Simpl_Cell_impl_Cell_impl_Cell__impl_sameCells_c1.o4 (N : Nat) : LoopOk Tryd.prog (nthLoop (fnBody Tryd.f32) 0) (loopCon N slices_EqualFunc_Simpl_Cell__Simpl_Cell_impl_Cell_impl_Cell__impl_sameCells_c1.sk4 slices_EqualFunc_Simpl_Cell__Simpl_Cell_impl_Cell_impl_Cell__impl_sameCells_c1.xs4 (fun {R} => slices_EqualFunc_Simpl_Cell__Simpl_Cell_impl_Cell_impl_Cell__impl_sameCells_c1.l4 (R := R) N)) := loop_ok (g := slices_EqualFunc_Simpl_Cell__Simpl_Cell_impl_Cell_impl_Cell__impl_sameCells_c1.cfg N) tys_ok (slices_EqualFunc_Simpl_Cell__Simpl_Cell_impl_Cell_impl_Cell__impl_sameCells_c1.cons N) mixed (slices_EqualFunc_Simpl_Cell__Simpl_Cell_impl_Cell_impl_Cell__impl_sameCells_c1.i4 N) (fun d kn kx => slices_EqualFunc_Simpl_Cell__Simpl_Cell_impl_Cell_impl_Cell__impl_sameCells_c1.h4 N d kn kx)
theorem slices_EqualFunc_Simpl_Cell__Simpl_Cell_impl_Cell_impl_Cell__impl_sameCells_c1.ls (N : Nat) : LoopsOk Tryd.prog (slices_EqualFunc_Simpl_Cell__Simpl_Cell_impl_Cell_impl_Cell__impl_sameCells_c1.cfg N) (fnBody Tryd.f32) := loopsL (l := [nthLoop (fnBody Tryd.f32) 0]) (by kernel_rfl) ⟨loopOne (L0 := loopCon N slices_EqualFunc_Simpl_Cell__Simpl_Cell_impl_Cell_impl_Cell__impl_sameCells_c1.sk4 slices_EqualFunc_Simpl_Cell__Simpl_Cell_impl_Cell_impl_Cell__impl_sameCells_c1.xs4 (fun {R} => slices_EqualFunc_Simpl_Cell__Simpl_Cell_impl_Cell_impl_Cell__impl_sameCells_c1.l4 (R := R) N)) (id := 4) (by kernel_rfl) (by kernel_rfl) (slices_EqualFunc_Simpl_Cell__Simpl_Cell_impl_Cell_impl_Cell__impl_sameCells_c1.o4 N), trivial⟩
theorem slices_EqualFunc_Simpl_Cell__Simpl_Cell_impl_Cell_impl_Cell__impl_sameCells_c1.q4 {R R' : Type} {N n : Nat} {d} {k} {g : R → Option R'} : bindF (loopP (slices_EqualFunc_Simpl_Cell__Simpl_Cell_impl_Cell_impl_Cell__impl_sameCells_c1.l4 N) n d k) g = loopP (slices_EqualFunc_Simpl_Cell__Simpl_Cell_impl_Cell_impl_Cell__impl_sameCells_c1.l4 N) n d fun e => bindF (k e) g := bindF_loopP (fun d kn kx => by simp only [slices_EqualFunc_Simpl_Cell__Simpl_Cell_impl_Cell_impl_Cell__impl_sameCells_c1.l4, bindF_ifB, bindF_bindO, bindF_pure, bindF_none, bindF_onSum]) n d k
theorem slices_EqualFunc_Simpl_Cell__Simpl_Cell_impl_Cell_impl_Cell__impl_sameCells_c1.b (N : Nat) (x0 : den s27) (x1 : den s27) : body (slices_EqualFunc_Simpl_Cell__Simpl_Cell_impl_Cell_impl_Cell__impl_sameCells_c1.cfg N) N Tryd.f32 [.one, .one, .fn 33 0] [.v, .v] [(false, .imm)] [⟨s27, .imm, x0⟩, ⟨s27, .imm, x1⟩] (fun r i => some (r, i)) = bindO (slices_EqualFunc_Simpl_Cell__Simpl_Cell_impl_Cell_impl_Cell__impl_sameCells_c1 N x0 x1) fun r => some ([⟨.bool, .imm, r⟩], []) := by
  show _ = bindF _ _
  conv => rhs; simp only [slices_EqualFunc_Simpl_Cell__Simpl_Cell_impl_Cell_impl_Cell__impl_sameCells_c1, bindF_ifB, bindF_bindO, bindF_pure, bindF_none, bindF_onSum, slices_EqualFunc_Simpl_Cell__Simpl_Cell_impl_Cell_impl_Cell__impl_sameCells_c1.q4]
  kernel_rfl
theorem slices_EqualFunc_Simpl_Cell__Simpl_Cell_impl_Cell_impl_Cell__impl_sameCells_c1.ok (N : Nat) : ConOk Tryd.prog 32 [.one, .one, .fn 33 0] (slices_EqualFunc_Simpl_Cell__Simpl_Cell_impl_Cell_impl_Cell__impl_sameCells_c1.con N) := ok2 (g := slices_EqualFunc_Simpl_Cell__Simpl_Cell_impl_Cell_impl_Cell__impl_sameCells_c1.cfg N) (N := N) (res := [(false, .imm)]) tys_ok (slices_EqualFunc_Simpl_Cell__Simpl_Cell_impl_Cell_impl_Cell__impl_sameCells_c1.cons N) mixed Tryd.func32 (slices_EqualFunc_Simpl_Cell__Simpl_Cell_impl_Cell_impl_Cell__impl_sameCells_c1.ls N) rfl (slices_EqualFunc_Simpl_Cell__Simpl_Cell_impl_Cell_impl_Cell__impl_sameCells_c1.b N)
theorem slices_EqualFunc_Simpl_Cell__Simpl_Cell_impl_Cell_impl_Cell__impl_sameCells_c1.det (N : Nat) : ConDet (slices_EqualFunc_Simpl_Cell__Simpl_Cell_impl_Cell_impl_Cell__impl_sameCells_c1.con N) := det2
def impl_sameCells.con (N : Nat) : Con := { modes := [.v, .v], ptrs := [false], fn := fn2 s27 .imm s27 .imm (impl_sameCells N) (fun r => [⟨.bool, .imm, r⟩]) (fun r => []) }
def impl_sameCells.cfg (N : Nat) : Cfg := { ty := tys, keep := [7], flt := [], elm := elm0, live := [], ord := [], con := [((32, [.one, .one, .fn 33 0]), slices_EqualFunc_Simpl_Cell__Simpl_Cell_impl_Cell_impl_Cell__impl_sameCells_c1.con N)], loops := [], joins := [] }
theorem impl_sameCells.cons (N : Nat) : ConsOk Tryd.prog (impl_sameCells.cfg N).con := (consOk_cons (hb32) (slices_EqualFunc_Simpl_Cell__Simpl_Cell_impl_Cell_impl_Cell__impl_sameCells_c1.ok N) (slices_EqualFunc_Simpl_Cell__Simpl_Cell_impl_Cell_impl_Cell__impl_sameCells_c1.det N) consOk_nil)
theorem impl_sameCells.ls (N : Nat) : LoopsOk Tryd.prog (impl_sameCells.cfg N) (fnBody Tryd.f16) := loopsL (l := []) (by kernel_rfl) trivial
theorem impl_sameCells.b (N : Nat) (x0 : den s27) (x1 : den s27) : body (impl_sameCells.cfg N) N Tryd.f16 [.one, .one] [.v, .v] [(false, .imm)] [⟨s27, .imm, x0⟩, ⟨s27, .imm, x1⟩] (fun r i => some (r, i)) = bindO (impl_sameCells N x0 x1) fun r => some ([⟨.bool, .imm, r⟩], []) := by
  show _ = bindF _ _
  conv => rhs; simp only [impl_sameCells, bindF_ifB, bindF_bindO, bindF_pure, bindF_none, bindF_onSum]
  kernel_rfl
theorem impl_sameCells.ok (N : Nat) : ConOk Tryd.prog 16 [.one, .one] (impl_sameCells.con N) := ok2 (g := impl_sameCells.cfg N) (N := N) (res := [(false, .imm)]) tys_ok (impl_sameCells.cons N) mixed Tryd.func16 (impl_sameCells.ls N) rfl (impl_sameCells.b N)
theorem impl_sameCells.det (N : Nat) : ConDet (impl_sameCells.con N) := det2
def internal_strconv_small.con (N : Nat) : Con := { modes := [.v], ptrs := [false], fn := fn1 (.int .i64) .imm (internal_strconv_small N) (fun r => [⟨.str, .imm, r⟩]) (fun r => []) }
def internal_strconv_small.cfg (N : Nat) : Cfg := { ty := tys, keep := [], flt := [], elm := elm0, live := [], ord := [], con := [], loops := [], joins := [] }
theorem internal_strconv_small.cons (N : Nat) : ConsOk Tryd.prog (internal_strconv_small.cfg N).con := consOk_nil
theorem internal_strconv_small.ls (N : Nat) : LoopsOk Tryd.prog (internal_strconv_small.cfg N) (fnBody Tryd.f61) := loopsL (l := []) (by kernel_rfl) trivial
theorem internal_strconv_small.b (N : Nat) (x0 : den (.int .i64)) : body (internal_strconv_small.cfg N) N Tryd.f61 [.one] [.v] [(false, .imm)] [⟨(.int .i64), .imm, x0⟩] (fun r i => some (r, i)) = bindO (internal_strconv_small N x0) fun r => some ([⟨.str, .imm, r⟩], []) := by
  show _ = bindF _ _
  conv => rhs; simp only [internal_strconv_small, bindF_ifB, bindF_bindO, bindF_pure, bindF_none, bindF_onSum]
  kernel_rfl
theorem internal_strconv_small.ok (N : Nat) : ConOk Tryd.prog 61 [.one] (internal_strconv_small.con N) := ok1 (g := internal_strconv_small.cfg N) (N := N) (res := [(false, .imm)]) tys_ok (internal_strconv_small.cons N) mixed Tryd.func61 (internal_strconv_small.ls N) rfl (internal_strconv_small.b N)
theorem internal_strconv_small.det (N : Nat) : ConDet (internal_strconv_small.con N) := det1
def internal_strconv_FormatInt.con (N : Nat) : Con := { modes := [.v, .v], ptrs := [false], fn := fn2 (.int .i64) .imm (.int .i64) .imm (internal_strconv_FormatInt N) (fun r => [⟨.str, .imm, r⟩]) (fun r => []) }
def internal_strconv_FormatInt.cfg (N : Nat) : Cfg := { ty := tys, keep := [19, 27, 32, 50], flt := [], elm := elm0, live := [], ord := [], con := [((61, [.one]), internal_strconv_small.con N)], loops := [], joins := [] }
theorem internal_strconv_FormatInt.cons (N : Nat) : ConsOk Tryd.prog (internal_strconv_FormatInt.cfg N).con := (consOk_cons (hb61) (internal_strconv_small.ok N) (internal_strconv_small.det N) consOk_nil)
theorem internal_strconv_FormatInt.ls (N : Nat) : LoopsOk Tryd.prog (internal_strconv_FormatInt.cfg N) (fnBody Tryd.f59) := loopsL (l := []) (by kernel_rfl) trivial
theorem internal_strconv_FormatInt.b (N : Nat) (x0 : den (.int .i64)) (x1 : den (.int .i64)) : body (internal_strconv_FormatInt.cfg N) N Tryd.f59 [.one, .one] [.v, .v] [(false, .imm)] [⟨(.int .i64), .imm, x0⟩, ⟨(.int .i64), .imm, x1⟩] (fun r i => some (r, i)) = bindO (internal_strconv_FormatInt N x0 x1) fun r => some ([⟨.str, .imm, r⟩], []) := by
  show _ = bindF _ _
  conv => rhs; simp only [internal_strconv_FormatInt, bindF_ifB, bindF_bindO, bindF_pure, bindF_none, bindF_onSum]
  kernel_rfl
theorem internal_strconv_FormatInt.ok (N : Nat) : ConOk Tryd.prog 59 [.one, .one] (internal_strconv_FormatInt.con N) := ok2 (g := internal_strconv_FormatInt.cfg N) (N := N) (res := [(false, .imm)]) tys_ok (internal_strconv_FormatInt.cons N) mixed Tryd.func59 (internal_strconv_FormatInt.ls N) rfl (internal_strconv_FormatInt.b N)
theorem internal_strconv_FormatInt.det (N : Nat) : ConDet (internal_strconv_FormatInt.con N) := det2
def strconv_FormatInt.con (N : Nat) : Con := { modes := [.v, .v], ptrs := [false], fn := fn2 (.int .i64) .imm (.int .i64) .imm (strconv_FormatInt N) (fun r => [⟨.str, .imm, r⟩]) (fun r => []) }
def strconv_FormatInt.cfg (N : Nat) : Cfg := { ty := tys, keep := [7], flt := [], elm := elm0, live := [], ord := [], con := [((59, [.one, .one]), internal_strconv_FormatInt.con N)], loops := [], joins := [] }
theorem strconv_FormatInt.cons (N : Nat) : ConsOk Tryd.prog (strconv_FormatInt.cfg N).con := (consOk_cons (hb59) (internal_strconv_FormatInt.ok N) (internal_strconv_FormatInt.det N) consOk_nil)
theorem strconv_FormatInt.ls (N : Nat) : LoopsOk Tryd.prog (strconv_FormatInt.cfg N) (fnBody Tryd.f51) := loopsL (l := []) (by kernel_rfl) trivial
theorem strconv_FormatInt.b (N : Nat) (x0 : den (.int .i64)) (x1 : den (.int .i64)) : body (strconv_FormatInt.cfg N) N Tryd.f51 [.one, .one] [.v, .v] [(false, .imm)] [⟨(.int .i64), .imm, x0⟩, ⟨(.int .i64), .imm, x1⟩] (fun r i => some (r, i)) = bindO (strconv_FormatInt N x0 x1) fun r => some ([⟨.str, .imm, r⟩], []) := by
  show _ = bindF _ _
  conv => rhs; simp only [strconv_FormatInt, bindF_ifB, bindF_bindO, bindF_pure, bindF_none, bindF_onSum]
  kernel_rfl
theorem strconv_FormatInt.ok (N : Nat) : ConOk Tryd.prog 51 [.one, .one] (strconv_FormatInt.con N) := ok2 (g := strconv_FormatInt.cfg N) (N := N) (res := [(false, .imm)]) tys_ok (strconv_FormatInt.cons N) mixed Tryd.func51 (strconv_FormatInt.ls N) rfl (strconv_FormatInt.b N)
theorem strconv_FormatInt.det (N : Nat) : ConDet (strconv_FormatInt.con N) := det2
def impl_decimal.con (N : Nat) : Con := { modes := [.v], ptrs := [false], fn := fn1 (.int .i64) .imm (impl_decimal N) (fun r => [⟨.str, .imm, r⟩]) (fun r => []) }
def impl_decimal.cfg (N : Nat) : Cfg := { ty := tys, keep := [4], flt := [], elm := elm0, live := [], ord := [], con := [((51, [.one, .one]), strconv_FormatInt.con N)], loops := [], joins := [] }
theorem impl_decimal.cons (N : Nat) : ConsOk Tryd.prog (impl_decimal.cfg N).con := (consOk_cons (hb51) (strconv_FormatInt.ok N) (strconv_FormatInt.det N) consOk_nil)
theorem impl_decimal.ls (N : Nat) : LoopsOk Tryd.prog (impl_decimal.cfg N) (fnBody Tryd.f36) := loopsL (l := []) (by kernel_rfl) trivial
theorem impl_decimal.b (N : Nat) (x0 : den (.int .i64)) : body (impl_decimal.cfg N) N Tryd.f36 [.one] [.v] [(false, .imm)] [⟨(.int .i64), .imm, x0⟩] (fun r i => some (r, i)) = bindO (impl_decimal N x0) fun r => some ([⟨.str, .imm, r⟩], []) := by
  show _ = bindF _ _
  conv => rhs; simp only [impl_decimal, bindF_ifB, bindF_bindO, bindF_pure, bindF_none, bindF_onSum]
  kernel_rfl
theorem impl_decimal.ok (N : Nat) : ConOk Tryd.prog 36 [.one] (impl_decimal.con N) := ok1 (g := impl_decimal.cfg N) (N := N) (res := [(false, .imm)]) tys_ok (impl_decimal.cons N) mixed Tryd.func36 (impl_decimal.ls N) rfl (impl_decimal.b N)
theorem impl_decimal.det (N : Nat) : ConDet (impl_decimal.con N) := det1
def impl_goTo.con (N : Nat) : Con := { modes := [.v, .v], ptrs := [false], fn := fn2 (.int .i64) .imm (.int .i64) .imm (impl_goTo N) (fun r => [⟨.str, .imm, r⟩]) (fun r => []) }
def impl_goTo.cfg (N : Nat) : Cfg := { ty := tys, keep := [7, 12], flt := [], elm := elm0, live := [], ord := [], con := [((36, [.one]), impl_decimal.con N)], loops := [], joins := [] }
theorem impl_goTo.cons (N : Nat) : ConsOk Tryd.prog (impl_goTo.cfg N).con := (consOk_cons (hb36) (impl_decimal.ok N) (impl_decimal.det N) consOk_nil)
theorem impl_goTo.ls (N : Nat) : LoopsOk Tryd.prog (impl_goTo.cfg N) (fnBody Tryd.f20) := loopsL (l := []) (by kernel_rfl) trivial
theorem impl_goTo.b (N : Nat) (x0 : den (.int .i64)) (x1 : den (.int .i64)) : body (impl_goTo.cfg N) N Tryd.f20 [.one, .one] [.v, .v] [(false, .imm)] [⟨(.int .i64), .imm, x0⟩, ⟨(.int .i64), .imm, x1⟩] (fun r i => some (r, i)) = bindO (impl_goTo N x0 x1) fun r => some ([⟨.str, .imm, r⟩], []) := by
  show _ = bindF _ _
  conv => rhs; simp only [impl_goTo, bindF_ifB, bindF_bindO, bindF_pure, bindF_none, bindF_onSum]
  kernel_rfl
theorem impl_goTo.ok (N : Nat) : ConOk Tryd.prog 20 [.one, .one] (impl_goTo.con N) := ok2 (g := impl_goTo.cfg N) (N := N) (res := [(false, .imm)]) tys_ok (impl_goTo.cons N) mixed Tryd.func20 (impl_goTo.ls N) rfl (impl_goTo.b N)
theorem impl_goTo.det (N : Nat) : ConDet (impl_goTo.con N) := det2
set_option maxHeartbeats 1000000 in
set_option maxRecDepth 100000 in
theorem blt_cc_used (b : Nat) (w : World) (h0 : w.cell? ⟨b, 0, none⟩ = some (.pointer (some ⟨b, 0, none⟩))) :
    Calls Tryd.prog 35 #[.pointer (some ⟨b, 0, none⟩)] w fun e w' => e = .returned (.tuple #[]) ∧ w' = w := by
  have hj0 : (Tryd.prog.info? 45).map (·.size) = some 2 := by kernel_rfl
  obtain ⟨j, hj, _⟩ := Option.map_eq_some_iff.1 hj0
  have mixed := mixed
  go_enter Tryd.func35, Tryd.ntmps35
  go_wp2
  rw [Go.Lib.run_neq_ptr_same w _ Tryd.underlying43 hj]
  go_wp2
  go_end0
  exact ⟨rfl, rfl⟩
set_option maxHeartbeats 1000000 in
set_option maxRecDepth 100000 in
theorem blt_cc_fresh (b : Nat) (w : World) (h0 : w.cell? ⟨b, 0, none⟩ = some (.pointer none)) (hsh : w.shape? b = some (45, 2)) (hfz : w.frozen? ⟨b, 0, none⟩ = false) :
    Calls Tryd.prog 35 #[.pointer (some ⟨b, 0, none⟩)] w fun e w' => e = .returned (.tuple #[]) ∧ w' = w.setCell ⟨b, 0, none⟩ (.pointer (some ⟨b, 0, none⟩)) := by
  have hj0 : (Tryd.prog.info? 45).map (·.size) = some 2 := by kernel_rfl
  have hlies : liesAt Tryd.prog Tryd.prog.depth 45 (2 / Tryd.prog.cellsOf 45) 0 45 1 = true := by kernel_rfl
  obtain ⟨j, hj, hjs⟩ := Option.map_eq_some_iff.1 hj0
  have mixed := mixed
  go_enter Tryd.func35, Tryd.ntmps35
  go_wp2
  rw [Go.Lib.run_to_unsafe w ⟨b, 0, none⟩ Tryd.underlying43 Tryd.underlying73 hj (by rw [hjs]; decide) hsh (Nat.zero_lt_succ 1)]
  simp only [Result.andThen]
  rw [Oper.upon_value]
  go_wp2
  rw [run_callFunc_extern Tryd.func50 (by kernel_rfl) (by kernel_rfl) (by kernel_rfl) (e := Extern.AbiNoEscape.same) (by kernel_rfl)]
  rw [Go.Lib.run_noEscape]
  simp only [Result.andThen]
  rw [Oper.upon_value]
  go_wp2
  rw [Go.Lib.run_from_unsafe w ⟨b, 0, none⟩ Tryd.underlying73 Tryd.underlying43 hj hsh hlies]
  simp only [Result.andThen]
  rw [Oper.upon_value]
  go_wp2
  go_end0
  exact ⟨rfl, rfl⟩
theorem blt_cc (m : Hp) (w : World) (b : Nat) (p : Value) (ad : Option Addr) (cap : Nat) (xs : List Int) (hR : Hp) (I : BltIn m w 45 5 b p ad cap xs hR) :
    Calls Tryd.prog 35 #[self b] w fun e w' => e = .returned (.tuple #[]) ∧ BltIn m w' 45 5 b (self b) ad cap xs hR ∧ Mod (blk b 0 [undef, undef]) w w' := by
  rcases I.p with h | h
  · subst h
    refine (blt_cc_fresh b w I.c0 I.shp (I.nf.at I.c0)).mono ?_
    rintro e w' ⟨rfl, rfl⟩
    exact ⟨rfl, I.checked (.inr ⟨rfl, rfl⟩)⟩
  · subst h
    refine (blt_cc_used b w I.c0).mono ?_
    rintro e w' ⟨rfl, rfl⟩
    exact ⟨rfl, I.checked (.inl ⟨rfl, rfl⟩)⟩
set_option maxHeartbeats 2000000 in
set_option maxRecDepth 100000 in
theorem strings_Builder_WriteString.run : BltRun Tryd.prog 17 45 5 0 := by
  intro m w b p ad cap xs hR s I hfit
  have mixed := mixed
  have ht : typeOk Tryd.prog 35 s35 = true := by kernel_rfl
  unfold self
  go_enter Tryd.func17, Tryd.ntmps17
  go_wp2_with (go_at_call 35; refine (blt_cc m w b p ad cap xs hR I).mono ?_)
  rintro e w1 ⟨rfl, I1, M1⟩
  have c0 := I1.c0
  have c1 := I1.c1
  obtain ⟨ad', cap', w2, hR', hrun, k0, k1, kf, M2, I2, dom, wh⟩ := I1.append (P := Tryd.prog) (ty := 35) ht Tryd.underlying9 hfit
  simp only [List.length_append] at hrun M2 I2
  go_wp2_with (at_builtin; refine Go.Lib.wpList_append_run _ rfl _ _ 35 9 rfl _ _ rfl rfl _ _ hrun ?_)
  go_wp2
  go_ret2
  refine ⟨_, ad', cap', hR', rfl, ?_, I2, ?_, ?_⟩
  · exact M1.un.trans M2
  · intro k o h
    exact (dom k o h).imp id fun q => Nat.le_trans M1.size q
  · exact wh.imp id fun ⟨q1, g, q2, q3⟩ => ⟨q1, g, q2, Nat.le_trans M1.size q3⟩
def strings_Builder_WriteString.con (N : Nat) : Con := { modes := [], ptrs := [], bl := some (45, 5, 0), fn := fun _ _ => none }
theorem strings_Builder_WriteString.ok (N : Nat) : ConOk Tryd.prog 17 [.one, .one] (strings_Builder_WriteString.con N) := ⟨fun h => (by cases h), fun b h => (by injection h with h; subst h; exact ⟨Tryd.zeroValue45, strings_Builder_WriteString.run⟩)⟩
theorem strings_Builder_WriteString.det (N : Nat) : ConDet (strings_Builder_WriteString.con N) := fun ds R k y h => by cases h
def unicode_utf8_appendRuneNonASCII.con (N : Nat) : Con := { modes := [.tk, .v], ptrs := [false], fn := fn2 s35 (.own .imm) (.int .i32) .imm (unicode_utf8_appendRuneNonASCII N) (fun r => [⟨s35, (.own .imm), r⟩]) (fun r => []) }
def unicode_utf8_appendRuneNonASCII.cfg (N : Nat) : Cfg := { ty := tys, keep := [], flt := [], elm := elm0, live := [], ord := [], con := [], loops := [], joins := [] }
theorem unicode_utf8_appendRuneNonASCII.cons (N : Nat) : ConsOk Tryd.prog (unicode_utf8_appendRuneNonASCII.cfg N).con := consOk_nil
theorem unicode_utf8_appendRuneNonASCII.ls (N : Nat) : LoopsOk Tryd.prog (unicode_utf8_appendRuneNonASCII.cfg N) (fnBody Tryd.f60) := loopsL (l := []) (by kernel_rfl) trivial
theorem unicode_utf8_appendRuneNonASCII.b (N : Nat) (x0 : den s35) (x1 : den (.int .i32)) : body (unicode_utf8_appendRuneNonASCII.cfg N) N Tryd.f60 [.one, .one] [.tk, .v] [(false, (.own .imm))] [⟨s35, (.own .imm), x0⟩, ⟨(.int .i32), .imm, x1⟩] (fun r i => some (r, i)) = bindO (unicode_utf8_appendRuneNonASCII N x0 x1) fun r => some ([⟨s35, (.own .imm), r⟩], []) := by
  show _ = bindF _ _
  conv => rhs; simp only [unicode_utf8_appendRuneNonASCII, bindF_ifB, bindF_bindO, bindF_pure, bindF_none, bindF_onSum]
  kernel_rfl
theorem unicode_utf8_appendRuneNonASCII.ok (N : Nat) : ConOk Tryd.prog 60 [.one, .one] (unicode_utf8_appendRuneNonASCII.con N) := ok2 (g := unicode_utf8_appendRuneNonASCII.cfg N) (N := N) (res := [(false, (.own .imm))]) tys_ok (unicode_utf8_appendRuneNonASCII.cons N) mixed Tryd.func60 (unicode_utf8_appendRuneNonASCII.ls N) rfl (unicode_utf8_appendRuneNonASCII.b N)
theorem unicode_utf8_appendRuneNonASCII.det (N : Nat) : ConDet (unicode_utf8_appendRuneNonASCII.con N) := det2
def unicode_utf8_AppendRune.con (N : Nat) : Con := { modes := [.tk, .v], ptrs := [false], fn := fn2 s35 (.own .imm) (.int .i32) .imm (unicode_utf8_AppendRune N) (fun r => [⟨s35, (.own .imm), r⟩]) (fun r => []) }
def unicode_utf8_AppendRune.cfg (N : Nat) : Cfg := { ty := tys, keep := [15], flt := [], elm := elm0, live := [], ord := [], con := [((60, [.one, .one]), unicode_utf8_appendRuneNonASCII.con N)], loops := [], joins := [] }
theorem unicode_utf8_AppendRune.cons (N : Nat) : ConsOk Tryd.prog (unicode_utf8_AppendRune.cfg N).con := (consOk_cons (hb60) (unicode_utf8_appendRuneNonASCII.ok N) (unicode_utf8_appendRuneNonASCII.det N) consOk_nil)
theorem unicode_utf8_AppendRune.ls (N : Nat) : LoopsOk Tryd.prog (unicode_utf8_AppendRune.cfg N) (fnBody Tryd.f52) := loopsL (l := []) (by kernel_rfl) trivial
theorem unicode_utf8_AppendRune.b (N : Nat) (x0 : den s35) (x1 : den (.int .i32)) : body (unicode_utf8_AppendRune.cfg N) N Tryd.f52 [.one, .one] [.tk, .v] [(false, (.own .imm))] [⟨s35, (.own .imm), x0⟩, ⟨(.int .i32), .imm, x1⟩] (fun r i => some (r, i)) = bindO (unicode_utf8_AppendRune N x0 x1) fun r => some ([⟨s35, (.own .imm), r⟩], []) := by
  show _ = bindF _ _
  conv => rhs; simp only [unicode_utf8_AppendRune, bindF_ifB, bindF_bindO, bindF_pure, bindF_none, bindF_onSum]
  kernel_rfl
theorem unicode_utf8_AppendRune.ok (N : Nat) : ConOk Tryd.prog 52 [.one, .one] (unicode_utf8_AppendRune.con N) := ok2 (g := unicode_utf8_AppendRune.cfg N) (N := N) (res := [(false, (.own .imm))]) tys_ok (unicode_utf8_AppendRune.cons N) mixed Tryd.func52 (unicode_utf8_AppendRune.ls N) rfl (unicode_utf8_AppendRune.b N)
theorem unicode_utf8_AppendRune.det (N : Nat) : ConDet (unicode_utf8_AppendRune.con N) := det2
def impl_textOf.sk3 : Skel := ⟨dd 3 (.ov 50 [] :: (dd 3 (.pv s36 :: (.pv (.int .i64) :: (.pv (.int .i64) :: (dd 10 [])))))), [⟨50, s35, (.own .imm), false, false⟩]⟩
def impl_textOf.xs3 : List XS := [⟨.exit 0, [3], ⟨dd 3 (.ov 50 [] :: (dd 16 [])), [⟨50, s35, (.own .imm), false, false⟩]⟩⟩]
def impl_textOf.con (N : Nat) : Con := { modes := [.v], ptrs := [false], fn := fn1 s36 .imm (impl_textOf N) (fun r => [⟨.str, .imm, r⟩]) (fun r => []) }
def impl_textOf.cfg (N : Nat) : Cfg := { ty := tys, keep := [16], flt := [], elm := elm0, live := [(3, [3, 7, 8, 9])], ord := [], con := [((52, [.one, .one]), unicode_utf8_AppendRune.con N)], loops := [(3, loopCon N impl_textOf.sk3 impl_textOf.xs3 (fun {R} => impl_textOf.l3 (R := R) N))], joins := [] }
theorem impl_textOf.cons (N : Nat) : ConsOk Tryd.prog (impl_textOf.cfg N).con := (consOk_cons (hb52) (unicode_utf8_AppendRune.ok N) (unicode_utf8_AppendRune.det N) consOk_nil)
theorem impl_textOf.h3 {R : Type} (N : Nat) (d : impl_textOf.sk3.D) (kn : impl_textOf.sk3.D → Option R) (kx : XD impl_textOf.xs3 → Option R) : roundK (impl_textOf.cfg N) N (nthLoop (fnBody Tryd.f37) 0) impl_textOf.sk3 impl_textOf.xs3 d kn kx = impl_textOf.l3 N d kn kx := by kernel_rfl
theorem impl_textOf.i3 (N : Nat) : LoopsOk Tryd.prog (impl_textOf.cfg N) (nthLoop (fnBody Tryd.f37) 0) := loopsL (l := []) (by kernel_rfl) trivial
theorem impl_textOf.o3 (N : Nat) : LoopOk Tryd.prog (nthLoop (fnBody Tryd.f37) 0) (loopCon N impl_textOf.sk3 impl_textOf.xs3 (fun {R} => impl_textOf.l3 (R := R) N)) := loop_ok (g := impl_textOf.cfg N) tys_ok (impl_textOf.cons N) mixed (impl_textOf.i3 N) (fun d kn kx => impl_textOf.h3 N d kn kx)
theorem impl_textOf.ls (N : Nat) : LoopsOk Tryd.prog (impl_textOf.cfg N) (fnBody Tryd.f37) := loopsL (l := [nthLoop (fnBody Tryd.f37) 0]) (by kernel_rfl) ⟨loopOne (L0 := loopCon N impl_textOf.sk3 impl_textOf.xs3 (fun {R} => impl_textOf.l3 (R := R) N)) (id := 3) (by kernel_rfl) (by kernel_rfl) (impl_textOf.o3 N), trivial⟩
theorem impl_textOf.q3 {R R' : Type} {N n : Nat} {d} {k} {g : R → Option R'} : bindF (loopP (impl_textOf.l3 N) n d k) g = loopP (impl_textOf.l3 N) n d fun e => bindF (k e) g := bindF_loopP (fun d kn kx => by simp only [impl_textOf.l3, bindF_ifB, bindF_bindO, bindF_pure, bindF_none, bindF_onSum]) n d k
theorem impl_textOf.b (N : Nat) (x0 : den s36) : body (impl_textOf.cfg N) N Tryd.f37 [.one] [.v] [(false, .imm)] [⟨s36, .imm, x0⟩] (fun r i => some (r, i)) = bindO (impl_textOf N x0) fun r => some ([⟨.str, .imm, r⟩], []) := by
  show _ = bindF _ _
  conv => rhs; simp only [impl_textOf, bindF_ifB, bindF_bindO, bindF_pure, bindF_none, bindF_onSum, impl_textOf.q3]
  kernel_rfl
theorem impl_textOf.ok (N : Nat) : ConOk Tryd.prog 37 [.one] (impl_textOf.con N) := ok1 (g := impl_textOf.cfg N) (N := N) (res := [(false, .imm)]) tys_ok (impl_textOf.cons N) mixed Tryd.func37 (impl_textOf.ls N) rfl (impl_textOf.b N)
theorem impl_textOf.det (N : Nat) : ConDet (impl_textOf.con N) := det1
end Go.AE.F
end
