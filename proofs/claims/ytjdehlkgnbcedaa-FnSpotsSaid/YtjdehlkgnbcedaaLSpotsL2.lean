/- The printed functions are what the program comes to: contracts. -/
import Derived.Test.YtjdehlkgnbcedaaLSpotsL1
noncomputable section
namespace Go.AE.F
open Go.AE Go.Proofs
set_option maxRecDepth 100000
def impl_WidthOf.sk6 : Skel := ⟨.pv (.int .i64) :: (dd 19 (.ov 50 [] :: (.pv (.int .i64) :: (.pv (.int .i64) :: (dd 10 []))))), [⟨50, s79, (.own .imm), false, false⟩]⟩
def impl_WidthOf.xs6 : List XS := [⟨.exit 0, [], ⟨dd 33 [], []⟩⟩, ⟨.ret, [2], ⟨dd 2 (.pv (.int .i64) :: (dd 30 [])), []⟩⟩]
def impl_WidthOf.con (N : Nat) : Con := { modes := [.v], ptrs := [false], fn := fn1 (.int .i64) .imm (impl_WidthOf N) (fun r => [⟨(.int .i64), .imm, r⟩]) (fun r => []) }
def impl_WidthOf.cfg (N : Nat) : Cfg := { ty := tys, keep := [6, 10, 13, 31], flt := [], elm := elm0, live := [(6, [0, 20, 21, 22])], ord := [], con := [((41, [.one]), impl_isPoint.con N), ((30, [.one, .one, .one]), impl_within.con N), ((48, [.one]), impl_isControl.con N)], loops := [(6, loopCon N impl_WidthOf.sk6 impl_WidthOf.xs6 (fun {R} => impl_WidthOf.l6 (R := R) N))], joins := [] }
theorem impl_WidthOf.cons (N : Nat) : ConsOk Try.prog (impl_WidthOf.cfg N).con := (consOk_cons (hb41) (impl_isPoint.ok N) (impl_isPoint.det N) (consOk_cons (hb30) (impl_within.ok N) (impl_within.det N) (consOk_cons (hb48) (impl_isControl.ok N) (impl_isControl.det N) consOk_nil)))
theorem impl_WidthOf.h6 {R : Type} (N : Nat) (d : impl_WidthOf.sk6.D) (kn : impl_WidthOf.sk6.D → Option R) (kx : XD impl_WidthOf.xs6 → Option R) : roundK (impl_WidthOf.cfg N) N (nthLoop (fnBody Try.f44) 0) impl_WidthOf.sk6 impl_WidthOf.xs6 d kn kx = impl_WidthOf.l6 N d kn kx := by kernel_rfl
theorem impl_WidthOf.i6 (N : Nat) : LoopsOk Try.prog (impl_WidthOf.cfg N) (nthLoop (fnBody Try.f44) 0) := loopsL (l := []) (by kernel_rfl) trivial
theorem impl_WidthOf.o6 (N : Nat) : LoopOk Try.prog (nthLoop (fnBody Try.f44) 0) (loopCon N impl_WidthOf.sk6 impl_WidthOf.xs6 (fun {R} => impl_WidthOf.l6 (R := R) N)) := loop_ok (g := impl_WidthOf.cfg N) tys_ok (impl_WidthOf.cons N) mixed (impl_WidthOf.i6 N) (fun d kn kx => impl_WidthOf.h6 N d kn kx)
theorem impl_WidthOf.ls (N : Nat) : LoopsOk Try.prog (impl_WidthOf.cfg N) (fnBody Try.f44) := loopsL (l := [nthLoop (fnBody Try.f44) 0]) (by kernel_rfl) ⟨loopOne (L0 := loopCon N impl_WidthOf.sk6 impl_WidthOf.xs6 (fun {R} => impl_WidthOf.l6 (R := R) N)) (id := 6) (by kernel_rfl) (by kernel_rfl) (impl_WidthOf.o6 N), trivial⟩
theorem impl_WidthOf.q6 {R R' : Type} {N n : Nat} {d} {k} {g : R → Option R'} : bindF (loopP (impl_WidthOf.l6 N) n d k) g = loopP (impl_WidthOf.l6 N) n d fun e => bindF (k e) g := bindF_loopP (fun d kn kx => by simp only [impl_WidthOf.l6, bindF_ifB, bindF_bindO, bindF_pure, bindF_none, bindF_onSum]) n d k
theorem impl_WidthOf.b (N : Nat) (x0 : den (.int .i64)) : body (impl_WidthOf.cfg N) N Try.f44 [.one] [.v] [(false, .imm)] [⟨(.int .i64), .imm, x0⟩] (fun r i => some (r, i)) = bindO (impl_WidthOf N x0) fun r => some ([⟨(.int .i64), .imm, r⟩], []) := by
  show _ = bindF _ _
  conv => rhs; simp only [impl_WidthOf, bindF_ifB, bindF_bindO, bindF_pure, bindF_none, bindF_onSum, impl_WidthOf.q6]
  kernel_rfl
theorem impl_WidthOf.ok (N : Nat) : ConOk Try.prog 44 [.one] (impl_WidthOf.con N) := ok1 (g := impl_WidthOf.cfg N) (N := N) (res := [(false, .imm)]) tys_ok (impl_WidthOf.cons N) mixed Try.func44 (impl_WidthOf.ls N) rfl (impl_WidthOf.b N)
theorem impl_WidthOf.det (N : Nat) : ConDet (impl_WidthOf.con N) := det1
def impl_layout_point.sk3 : Skel := ⟨.ptr 0 [] :: (dd 1 (.pv (.int .i64) :: (dd 12 (.ov 50 [] :: (.pv (.int .i64) :: (.pv (.int .i64) :: (dd 86 []))))))), [⟨0, s52, (.pr .imm (.pr .imm (.pr .imm (.pr (.own (.pr (.pr (.own .imm) .imm) .imm)) (.pr .imm (.pr (.own .imm) .imm)))))), true, false⟩, ⟨50, s23, (.own .imm), false, false⟩]⟩
def impl_layout_point.xs3 : List XS := [⟨.exit 0, [], ⟨dd 104 [], [⟨0, s52, (.pr .imm (.pr .imm (.pr .imm (.pr (.own (.pr (.pr (.own .imm) .imm) .imm)) (.pr .imm (.pr (.own .imm) .imm)))))), true, false⟩]⟩⟩]
def impl_layout_point.con (N : Nat) : Con := { modes := [.io, .v, .v], ptrs := [], fn := fn3 s52 (.pr .imm (.pr .imm (.pr .imm (.pr (.own (.pr (.pr (.own .imm) .imm) .imm)) (.pr .imm (.pr (.own .imm) .imm)))))) (.int .i64) .imm (.int .i64) .imm (impl_layout_point N) (fun r => []) (fun r => [⟨s52, (.pr .imm (.pr .imm (.pr .imm (.pr (.own (.pr (.pr (.own .imm) .imm) .imm)) (.pr .imm (.pr (.own .imm) .imm)))))), r⟩]) }
def impl_layout_point.cfg (N : Nat) : Cfg := { ty := tys, keep := [13, 15, 22, 69], flt := [], elm := elm0, live := [(3, [0, 2, 15, 16, 17])], ord := [(8, [0, 1, 2, 3, 4, 5, 6, 7, 8, 9, 10, 11, 12]), (11, [0, 1, 2, 3, 4, 5, 6, 7, 8, 9, 10]), (13, [0, 1, 2, 3, 4, 5, 7, 9, 10, 11, 12, 13, 14, 15, 16, 6, 8, 17, 18, 19, 20, 21, 22])], con := [((42, [.one]), impl_layout_next.con N), ((43, [.one]), impl_shown.con N), ((44, [.one]), impl_WidthOf.con N)], loops := [(3, loopCon N impl_layout_point.sk3 impl_layout_point.xs3 (fun {R} => impl_layout_point.l3 (R := R) N))], joins := [(16, [⟨.normal, [0, 2, 15, 16, 17], ⟨.ptr 0 [] :: (dd 1 (.pv (.int .i64) :: (dd 12 (.ov 50 [] :: (.pv (.int .i64) :: (.pv (.int .i64) :: (dd 86 []))))))), [⟨0, s52, (.pr .imm (.pr .imm (.pr .imm (.pr (.own (.pr (.pr (.own .imm) .imm) .imm)) (.pr .imm (.pr (.own .imm) .imm)))))), true, false⟩, ⟨50, s23, (.own .imm), false, false⟩]⟩⟩])] }
theorem impl_layout_point.cons (N : Nat) : ConsOk Try.prog (impl_layout_point.cfg N).con := (consOk_cons (hb42) (impl_layout_next.ok N) (impl_layout_next.det N) (consOk_cons (hb43) (impl_shown.ok N) (impl_shown.det N) (consOk_cons (hb44) (impl_WidthOf.ok N) (impl_WidthOf.det N) consOk_nil)))
theorem impl_layout_point.h3 {R : Type} (N : Nat) (d : impl_layout_point.sk3.D) (kn : impl_layout_point.sk3.D → Option R) (kx : XD impl_layout_point.xs3 → Option R) : roundK (impl_layout_point.cfg N) N (nthLoop (fnBody Try.f28) 0) impl_layout_point.sk3 impl_layout_point.xs3 d kn kx = impl_layout_point.l3 N d kn kx := by kernel_rfl
theorem impl_layout_point.i3 (N : Nat) : LoopsOk Try.prog (impl_layout_point.cfg N) (nthLoop (fnBody Try.f28) 0) := loopsL (l := []) (by kernel_rfl) trivial
theorem impl_layout_point.o3 (N : Nat) : LoopOk Try.prog (nthLoop (fnBody Try.f28) 0) (loopCon N impl_layout_point.sk3 impl_layout_point.xs3 (fun {R} => impl_layout_point.l3 (R := R) N)) := loop_ok (g := impl_layout_point.cfg N) tys_ok (impl_layout_point.cons N) mixed (impl_layout_point.i3 N) (fun d kn kx => impl_layout_point.h3 N d kn kx)
theorem impl_layout_point.ls (N : Nat) : LoopsOk Try.prog (impl_layout_point.cfg N) (fnBody Try.f28) := loopsL (l := [nthLoop (fnBody Try.f28) 0]) (by kernel_rfl) ⟨loopOne (L0 := loopCon N impl_layout_point.sk3 impl_layout_point.xs3 (fun {R} => impl_layout_point.l3 (R := R) N)) (id := 3) (by kernel_rfl) (by kernel_rfl) (impl_layout_point.o3 N), trivial⟩
theorem impl_layout_point.q3 {R R' : Type} {N n : Nat} {d} {k} {g : R → Option R'} : bindF (loopP (impl_layout_point.l3 N) n d k) g = loopP (impl_layout_point.l3 N) n d fun e => bindF (k e) g := bindF_loopP (fun d kn kx => by simp only [impl_layout_point.l3, bindF_ifB, bindF_bindO, bindF_pure, bindF_none, bindF_onSum]) n d k
theorem impl_layout_point.b (N : Nat) (x0 : den s52) (x1 : den (.int .i64)) (x2 : den (.int .i64)) : body (impl_layout_point.cfg N) N Try.f28 [.one, .one, .one] [.io, .v, .v] [] [⟨s52, (.pr .imm (.pr .imm (.pr .imm (.pr (.own (.pr (.pr (.own .imm) .imm) .imm)) (.pr .imm (.pr (.own .imm) .imm)))))), x0⟩, ⟨(.int .i64), .imm, x1⟩, ⟨(.int .i64), .imm, x2⟩] (fun r i => some (r, i)) = bindO (impl_layout_point N x0 x1 x2) fun r => some ([], [⟨s52, (.pr .imm (.pr .imm (.pr .imm (.pr (.own (.pr (.pr (.own .imm) .imm) .imm)) (.pr .imm (.pr (.own .imm) .imm)))))), r⟩]) := by
  show _ = bindF _ _
  conv => rhs; simp only [impl_layout_point, bindF_ifB, bindF_bindO, bindF_pure, bindF_none, bindF_onSum, impl_layout_point.q3]
  kernel_rfl
theorem impl_layout_point.ok (N : Nat) : ConOk Try.prog 28 [.one, .one, .one] (impl_layout_point.con N) := ok3 (g := impl_layout_point.cfg N) (N := N) (res := []) tys_ok (impl_layout_point.cons N) mixed Try.func28 (impl_layout_point.ls N) rfl (impl_layout_point.b N)
theorem impl_layout_point.det (N : Nat) : ConDet (impl_layout_point.con N) := det3
def impl_Buf_region.con (N : Nat) : Con := { modes := [.rd], ptrs := [false, false], fn := fn1 s24 .imm (impl_Buf_region N) (fun r => [⟨(.int .i64), .imm, r.1⟩, ⟨(.int .i64), .imm, r.2⟩]) (fun r => []) }
def impl_Buf_region.cfg (N : Nat) : Cfg := { ty := tys, keep := [], flt := [], elm := elm0, live := [], ord := [(1, [0, 1, 2, 3, 4, 5, 6, 7, 9, 10, 11, 12, 13, 14, 15, 16, 8, 17, 18, 19])], con := [], loops := [], joins := [] }
theorem impl_Buf_region.cons (N : Nat) : ConsOk Try.prog (impl_Buf_region.cfg N).con := consOk_nil
theorem impl_Buf_region.ls (N : Nat) : LoopsOk Try.prog (impl_Buf_region.cfg N) (fnBody Try.f29) := loopsL (l := []) (by kernel_rfl) trivial
theorem impl_Buf_region.b (N : Nat) (x0 : den s24) : body (impl_Buf_region.cfg N) N Try.f29 [.one] [.rd] [(false, .imm), (false, .imm)] [⟨s24, .imm, x0⟩] (fun r i => some (r, i)) = bindO (impl_Buf_region N x0) fun r => some ([⟨(.int .i64), .imm, r.1⟩, ⟨(.int .i64), .imm, r.2⟩], []) := by
  show _ = bindF _ _
  conv => rhs; simp only [impl_Buf_region, bindF_ifB, bindF_bindO, bindF_pure, bindF_none, bindF_onSum]
  kernel_rfl
theorem impl_Buf_region.ok (N : Nat) : ConOk Try.prog 29 [.one] (impl_Buf_region.con N) := ok1 (g := impl_Buf_region.cfg N) (N := N) (res := [(false, .imm), (false, .imm)]) tys_ok (impl_Buf_region.cons N) mixed Try.func29 (impl_Buf_region.ls N) rfl (impl_Buf_region.b N)
theorem impl_Buf_region.det (N : Nat) : ConDet (impl_Buf_region.con N) := det1
def impl_layout_spot.con (N : Nat) : Con := { modes := [.rd], ptrs := [false], fn := fn1 s52 .imm (impl_layout_spot N) (fun r => [⟨s30, .imm, r⟩]) (fun r => []) }
def impl_layout_spot.cfg (N : Nat) : Cfg := { ty := tys, keep := [], flt := [], elm := elm0, live := [], ord := [(1, [0, 1, 2, 3, 4, 5, 6, 7, 8]), (3, [0, 1, 2, 3, 4, 5, 6, 7, 8, 9])], con := [], loops := [], joins := [] }
theorem impl_layout_spot.cons (N : Nat) : ConsOk Try.prog (impl_layout_spot.cfg N).con := consOk_nil
theorem impl_layout_spot.ls (N : Nat) : LoopsOk Try.prog (impl_layout_spot.cfg N) (fnBody Try.f16) := loopsL (l := []) (by kernel_rfl) trivial
theorem impl_layout_spot.b (N : Nat) (x0 : den s52) : body (impl_layout_spot.cfg N) N Try.f16 [.one] [.rd] [(false, .imm)] [⟨s52, .imm, x0⟩] (fun r i => some (r, i)) = bindO (impl_layout_spot N x0) fun r => some ([⟨s30, .imm, r⟩], []) := by
  show _ = bindF _ _
  conv => rhs; simp only [impl_layout_spot, bindF_ifB, bindF_bindO, bindF_pure, bindF_none, bindF_onSum]
  kernel_rfl
theorem impl_layout_spot.ok (N : Nat) : ConOk Try.prog 16 [.one] (impl_layout_spot.con N) := ok1 (g := impl_layout_spot.cfg N) (N := N) (res := [(false, .imm)]) tys_ok (impl_layout_spot.cons N) mixed Try.func16 (impl_layout_spot.ls N) rfl (impl_layout_spot.b N)
theorem impl_layout_spot.det (N : Nat) : ConDet (impl_layout_spot.con N) := det1
def impl_lay.sk3 : Skel := ⟨dd 2 (.pv .bool :: (dd 2 (.ptr 50 [] :: (dd 3 (.ptr 51 [] :: (dd 10 (.pv s23 :: (.pv (.int .i64) :: (.pv (.int .i64) :: (dd 55 [])))))))))), [⟨50, s24, .imm, true, false⟩, ⟨51, s52, (.pr .imm (.pr .imm (.pr .imm (.pr (.own (.pr (.pr (.own .imm) .imm) .imm)) (.pr .imm (.pr (.own .imm) .imm)))))), true, false⟩]⟩
def impl_lay.xs3 : List XS := [⟨.exit 0, [2, 5, 9], ⟨dd 2 (.pv .bool :: (dd 2 (.ptr 50 [] :: (dd 3 (.ptr 51 [] :: (dd 68 [])))))), [⟨50, s24, .imm, true, false⟩, ⟨51, s52, (.pr .imm (.pr .imm (.pr .imm (.pr (.own (.pr (.pr (.own .imm) .imm) .imm)) (.pr .imm (.pr (.own .imm) .imm)))))), true, false⟩]⟩⟩]
def impl_lay.sk9 : Skel := ⟨dd 2 (.pv .bool :: (dd 6 (.ptr 50 [] :: (dd 2 (.pv (.int .i64) :: (.pv (.int .i64) :: (dd 21 (.pv s23 :: (.pv (.int .i64) :: (.pv (.int .i64) :: (dd 40 []))))))))))), [⟨50, s52, (.pr .imm (.pr .imm (.pr .imm (.pr (.own (.pr (.pr (.own .imm) .imm) .imm)) (.pr .imm (.pr (.own .imm) .imm)))))), true, false⟩]⟩
def impl_lay.xs9 : List XS := [⟨.exit 2, [9], ⟨dd 9 (.ptr 50 [] :: (dd 68 [])), [⟨50, s52, (.pr .imm (.pr .imm (.pr .imm (.pr (.own (.pr (.pr (.own .imm) .imm) .imm)) (.pr .imm (.pr (.own .imm) .imm)))))), true, false⟩]⟩⟩]
def impl_lay.con (N : Nat) : Con := { modes := [.v, .v, .v, .v], ptrs := [true], fn := fn4 s23 .imm s24 .imm .bool .imm (.int .i64) .imm (impl_lay N) (fun r => [⟨s52, .imm, r⟩]) (fun r => []) }
def impl_lay.cfg (N : Nat) : Cfg := { ty := tys, keep := [28, 31, 48, 59, 64, 72], flt := [], elm := elm0, live := [(9, [2, 9, 12, 13, 35, 36, 37]), (3, [2, 5, 9, 20, 21, 22])], ord := [(11, [0, 1, 2, 3, 4, 5, 6, 7, 8, 9, 10, 11]), (17, [0, 1, 2, 3, 4, 5, 6, 7, 8, 9, 10, 11])], con := [((28, [.one, .one, .one]), impl_layout_point.con N), ((29, [.one]), impl_Buf_region.con N), ((16, [.one]), impl_layout_spot.con N), ((30, [.one, .one, .one]), impl_within.con N)], loops := [(3, loopCon N impl_lay.sk3 impl_lay.xs3 (fun {R} => impl_lay.l3 (R := R) N)), (9, loopCon N impl_lay.sk9 impl_lay.xs9 (fun {R} => impl_lay.l9 (R := R) N))], joins := [(16, [⟨.normal, [2, 9, 12, 13, 35, 36, 37], ⟨dd 2 (.pv .bool :: (dd 6 (.ptr 50 [] :: (dd 2 (.pv (.int .i64) :: (.pv (.int .i64) :: (dd 21 (.pv s23 :: (.pv (.int .i64) :: (.pv (.int .i64) :: (dd 40 []))))))))))), [⟨50, s52, (.pr .imm (.pr .imm (.pr .imm (.pr (.own (.pr (.pr (.own .imm) .imm) .imm)) (.pr .imm (.pr (.own .imm) .imm)))))), true, false⟩]⟩⟩])] }
theorem impl_lay.cons (N : Nat) : ConsOk Try.prog (impl_lay.cfg N).con := (consOk_cons (hb28) (impl_layout_point.ok N) (impl_layout_point.det N) (consOk_cons (hb29) (impl_Buf_region.ok N) (impl_Buf_region.det N) (consOk_cons (hb16) (impl_layout_spot.ok N) (impl_layout_spot.det N) (consOk_cons (hb30) (impl_within.ok N) (impl_within.det N) consOk_nil))))
theorem impl_lay.h9 {R : Type} (N : Nat) (d : impl_lay.sk9.D) (kn : impl_lay.sk9.D → Option R) (kx : XD impl_lay.xs9 → Option R) : roundK (impl_lay.cfg N) N (nthLoop (fnBody Try.f15) 1) impl_lay.sk9 impl_lay.xs9 d kn kx = impl_lay.l9 N d kn kx := by kernel_rfl
theorem impl_lay.i9 (N : Nat) : LoopsOk Try.prog (impl_lay.cfg N) (nthLoop (fnBody Try.f15) 1) := loopsL (l := []) (by kernel_rfl) trivial
theorem impl_lay.o9 (N : Nat) : LoopOk Try.prog (nthLoop (fnBody Try.f15) 1) (loopCon N impl_lay.sk9 impl_lay.xs9 (fun {R} => impl_lay.l9 (R := R) N)) := loop_ok (g := impl_lay.cfg N) tys_ok (impl_lay.cons N) mixed (impl_lay.i9 N) (fun d kn kx => impl_lay.h9 N d kn kx)
theorem impl_lay.h3 {R : Type} (N : Nat) (d : impl_lay.sk3.D) (kn : impl_lay.sk3.D → Option R) (kx : XD impl_lay.xs3 → Option R) : roundK (impl_lay.cfg N) N (nthLoop (fnBody Try.f15) 0) impl_lay.sk3 impl_lay.xs3 d kn kx = impl_lay.l3 N d kn kx := by kernel_rfl
theorem impl_lay.i3 (N : Nat) : LoopsOk Try.prog (impl_lay.cfg N) (nthLoop (fnBody Try.f15) 0) := loopsL (l := []) (by kernel_rfl) trivial
theorem impl_lay.o3 (N : Nat) : LoopOk Try.prog (nthLoop (fnBody Try.f15) 0) (loopCon N impl_lay.sk3 impl_lay.xs3 (fun {R} => impl_lay.l3 (R := R) N)) := loop_ok (g := impl_lay.cfg N) tys_ok (impl_lay.cons N) mixed (impl_lay.i3 N) (fun d kn kx => impl_lay.h3 N d kn kx)
theorem impl_lay.ls (N : Nat) : LoopsOk Try.prog (impl_lay.cfg N) (fnBody Try.f15) := loopsL (l := [nthLoop (fnBody Try.f15) 0, nthLoop (fnBody Try.f15) 1]) (by kernel_rfl) ⟨loopOne (L0 := loopCon N impl_lay.sk3 impl_lay.xs3 (fun {R} => impl_lay.l3 (R := R) N)) (id := 3) (by kernel_rfl) (by kernel_rfl) (impl_lay.o3 N), ⟨loopOne (L0 := loopCon N impl_lay.sk9 impl_lay.xs9 (fun {R} => impl_lay.l9 (R := R) N)) (id := 9) (by kernel_rfl) (by kernel_rfl) (impl_lay.o9 N), trivial⟩⟩
theorem impl_lay.q9 {R R' : Type} {N n : Nat} {d} {k} {g : R → Option R'} : bindF (loopP (impl_lay.l9 N) n d k) g = loopP (impl_lay.l9 N) n d fun e => bindF (k e) g := bindF_loopP (fun d kn kx => by simp only [impl_lay.l9, bindF_ifB, bindF_bindO, bindF_pure, bindF_none, bindF_onSum]) n d k
theorem impl_lay.q3 {R R' : Type} {N n : Nat} {d} {k} {g : R → Option R'} : bindF (loopP (impl_lay.l3 N) n d k) g = loopP (impl_lay.l3 N) n d fun e => bindF (k e) g := bindF_loopP (fun d kn kx => by simp only [impl_lay.l3, bindF_ifB, bindF_bindO, bindF_pure, bindF_none, bindF_onSum]) n d k
theorem impl_lay.b (N : Nat) (x0 : den s23) (x1 : den s24) (x2 : den .bool) (x3 : den (.int .i64)) : body (impl_lay.cfg N) N Try.f15 [.one, .one, .one, .one] [.v, .v, .v, .v] [(true, .imm)] [⟨s23, .imm, x0⟩, ⟨s24, .imm, x1⟩, ⟨.bool, .imm, x2⟩, ⟨(.int .i64), .imm, x3⟩] (fun r i => some (r, i)) = bindO (impl_lay N x0 x1 x2 x3) fun r => some ([⟨s52, .imm, r⟩], []) := by
  show _ = bindF _ _
  conv => rhs; simp only [impl_lay, bindF_ifB, bindF_bindO, bindF_pure, bindF_none, bindF_onSum, impl_lay.q3, impl_lay.q9]
  kernel_rfl
theorem impl_lay.ok (N : Nat) : ConOk Try.prog 15 [.one, .one, .one, .one] (impl_lay.con N) := ok4 (g := impl_lay.cfg N) (N := N) (res := [(true, .imm)]) tys_ok (impl_lay.cons N) mixed Try.func15 (impl_lay.ls N) rfl (impl_lay.b N)
theorem impl_lay.det (N : Nat) : ConDet (impl_lay.con N) := det4
def impl_ViewRows.con (N : Nat) : Con := { modes := [.v, .v, .v], ptrs := [false], fn := fn3 s23 .imm s24 .imm (.int .i64) .imm (impl_ViewRows N) (fun r => [⟨(.int .i64), .imm, r⟩]) (fun r => []) }
def impl_ViewRows.cfg (N : Nat) : Cfg := { ty := tys, keep := [10, 15, 16], flt := [], elm := elm0, live := [], ord := [], con := [((14, [.one, .one, .one]), impl_isViewed.con N), ((15, [.one, .one, .one, .one]), impl_lay.con N), ((16, [.one]), impl_layout_spot.con N)], loops := [], joins := [] }
theorem impl_ViewRows.cons (N : Nat) : ConsOk Try.prog (impl_ViewRows.cfg N).con := (consOk_cons (hb14) (impl_isViewed.ok N) (impl_isViewed.det N) (consOk_cons (hb15) (impl_lay.ok N) (impl_lay.det N) (consOk_cons (hb16) (impl_layout_spot.ok N) (impl_layout_spot.det N) consOk_nil)))
theorem impl_ViewRows.ls (N : Nat) : LoopsOk Try.prog (impl_ViewRows.cfg N) (fnBody Try.f5) := loopsL (l := []) (by kernel_rfl) trivial
theorem impl_ViewRows.b (N : Nat) (x0 : den s23) (x1 : den s24) (x2 : den (.int .i64)) : body (impl_ViewRows.cfg N) N Try.f5 [.one, .one, .one] [.v, .v, .v] [(false, .imm)] [⟨s23, .imm, x0⟩, ⟨s24, .imm, x1⟩, ⟨(.int .i64), .imm, x2⟩] (fun r i => some (r, i)) = bindO (impl_ViewRows N x0 x1 x2) fun r => some ([⟨(.int .i64), .imm, r⟩], []) := by
  show _ = bindF _ _
  conv => rhs; simp only [impl_ViewRows, bindF_ifB, bindF_bindO, bindF_pure, bindF_none, bindF_onSum]
  kernel_rfl
theorem impl_ViewRows.ok (N : Nat) : ConOk Try.prog 5 [.one, .one, .one] (impl_ViewRows.con N) := ok3 (g := impl_ViewRows.cfg N) (N := N) (res := [(false, .imm)]) tys_ok (impl_ViewRows.cons N) mixed Try.func5 (impl_ViewRows.ls N) rfl (impl_ViewRows.b N)
theorem impl_ViewRows.det (N : Nat) : ConDet (impl_ViewRows.con N) := det3
def spec_l01Point.con (N : Nat) : Con := { modes := [.v], ptrs := [false], fn := fn1 (.int .i64) .imm (spec_l01Point N) (fun r => [⟨.bool, .imm, r⟩]) (fun r => []) }
def spec_l01Point.cfg (N : Nat) : Cfg := { ty := tys, keep := [], flt := [], elm := elm0, live := [], ord := [], con := [], loops := [], joins := [] }
theorem spec_l01Point.cons (N : Nat) : ConsOk Try.prog (spec_l01Point.cfg N).con := consOk_nil
theorem spec_l01Point.ls (N : Nat) : LoopsOk Try.prog (spec_l01Point.cfg N) (fnBody Try.f31) := loopsL (l := []) (by kernel_rfl) trivial
theorem spec_l01Point.b (N : Nat) (x0 : den (.int .i64)) : body (spec_l01Point.cfg N) N Try.f31 [.one] [.v] [(false, .imm)] [⟨(.int .i64), .imm, x0⟩] (fun r i => some (r, i)) = bindO (spec_l01Point N x0) fun r => some ([⟨.bool, .imm, r⟩], []) := by
  show _ = bindF _ _
  conv => rhs; simp only [spec_l01Point, bindF_ifB, bindF_bindO, bindF_pure, bindF_none, bindF_onSum]
  kernel_rfl
theorem spec_l01Point.ok (N : Nat) : ConOk Try.prog 31 [.one] (spec_l01Point.con N) := ok1 (g := spec_l01Point.cfg N) (N := N) (res := [(false, .imm)]) tys_ok (spec_l01Point.cons N) mixed Try.func31 (spec_l01Point.ls N) rfl (spec_l01Point.b N)
theorem spec_l01Point.det (N : Nat) : ConDet (spec_l01Point.con N) := det1
def spec_PointsRight.sk4 : Skel := ⟨.pv s23 :: (dd 2 (.pv (.int .i64) :: (dd 15 []))), []⟩
def spec_PointsRight.xs4 : List XS := [⟨.exit 0, [], ⟨dd 19 [], []⟩⟩, ⟨.ret, [2], ⟨dd 2 (.pv .bool :: (dd 16 [])), []⟩⟩]
def spec_PointsRight.con (N : Nat) : Con := { modes := [.v], ptrs := [false], fn := fn1 s23 .imm (spec_PointsRight N) (fun r => [⟨.bool, .imm, r⟩]) (fun r => []) }
def spec_PointsRight.cfg (N : Nat) : Cfg := { ty := tys, keep := [17], flt := [], elm := elm0, live := [(4, [0, 3])], ord := [], con := [((31, [.one]), spec_l01Point.con N)], loops := [(4, loopCon N spec_PointsRight.sk4 spec_PointsRight.xs4 (fun {R} => spec_PointsRight.l4 (R := R) N))], joins := [] }
theorem spec_PointsRight.cons (N : Nat) : ConsOk Try.prog (spec_PointsRight.cfg N).con := (consOk_cons (hb31) (spec_l01Point.ok N) (spec_l01Point.det N) consOk_nil)
theorem spec_PointsRight.h4 {R : Type} (N : Nat) (d : spec_PointsRight.sk4.D) (kn : spec_PointsRight.sk4.D → Option R) (kx : XD spec_PointsRight.xs4 → Option R) : roundK (spec_PointsRight.cfg N) N (nthLoop (fnBody Try.f17) 0) spec_PointsRight.sk4 spec_PointsRight.xs4 d kn kx = spec_PointsRight.l4 N d kn kx := by kernel_rfl
theorem spec_PointsRight.i4 (N : Nat) : LoopsOk Try.prog (spec_PointsRight.cfg N) (nthLoop (fnBody Try.f17) 0) := loopsL (l := []) (by kernel_rfl) trivial
theorem spec_PointsRight.o4 (N : Nat) : LoopOk Try.prog (nthLoop (fnBody Try.f17) 0) (loopCon N spec_PointsRight.sk4 spec_PointsRight.xs4 (fun {R} => spec_PointsRight.l4 (R := R) N)) := loop_ok (g := spec_PointsRight.cfg N) tys_ok (spec_PointsRight.cons N) mixed (spec_PointsRight.i4 N) (fun d kn kx => spec_PointsRight.h4 N d kn kx)
theorem spec_PointsRight.ls (N : Nat) : LoopsOk Try.prog (spec_PointsRight.cfg N) (fnBody Try.f17) := loopsL (l := [nthLoop (fnBody Try.f17) 0]) (by kernel_rfl) ⟨loopOne (L0 := loopCon N spec_PointsRight.sk4 spec_PointsRight.xs4 (fun {R} => spec_PointsRight.l4 (R := R) N)) (id := 4) (by kernel_rfl) (by kernel_rfl) (spec_PointsRight.o4 N), trivial⟩
theorem spec_PointsRight.q4 {R R' : Type} {N n : Nat} {d} {k} {g : R → Option R'} : bindF (loopP (spec_PointsRight.l4 N) n d k) g = loopP (spec_PointsRight.l4 N) n d fun e => bindF (k e) g := bindF_loopP (fun d kn kx => by simp only [spec_PointsRight.l4, bindF_ifB, bindF_bindO, bindF_pure, bindF_none, bindF_onSum]) n d k
theorem spec_PointsRight.b (N : Nat) (x0 : den s23) : body (spec_PointsRight.cfg N) N Try.f17 [.one] [.v] [(false, .imm)] [⟨s23, .imm, x0⟩] (fun r i => some (r, i)) = bindO (spec_PointsRight N x0) fun r => some ([⟨.bool, .imm, r⟩], []) := by
  show _ = bindF _ _
  conv => rhs; simp only [spec_PointsRight, bindF_ifB, bindF_bindO, bindF_pure, bindF_none, bindF_onSum, spec_PointsRight.q4]
  kernel_rfl
theorem spec_PointsRight.ok (N : Nat) : ConOk Try.prog 17 [.one] (spec_PointsRight.con N) := ok1 (g := spec_PointsRight.cfg N) (N := N) (res := [(false, .imm)]) tys_ok (spec_PointsRight.cons N) mixed Try.func17 (spec_PointsRight.ls N) rfl (spec_PointsRight.b N)
theorem spec_PointsRight.det (N : Nat) : ConDet (spec_PointsRight.con N) := det1
def spec_BufRight.con (N : Nat) : Con := { modes := [.v], ptrs := [false], fn := fn1 s24 .imm (spec_BufRight N) (fun r => [⟨.bool, .imm, r⟩]) (fun r => []) }
def spec_BufRight.cfg (N : Nat) : Cfg := { ty := tys, keep := [9], flt := [], elm := elm0, live := [], ord := [], con := [((17, [.one]), spec_PointsRight.con N)], loops := [], joins := [] }
theorem spec_BufRight.cons (N : Nat) : ConsOk Try.prog (spec_BufRight.cfg N).con := (consOk_cons (hb17) (spec_PointsRight.ok N) (spec_PointsRight.det N) consOk_nil)
theorem spec_BufRight.ls (N : Nat) : LoopsOk Try.prog (spec_BufRight.cfg N) (fnBody Try.f18) := loopsL (l := []) (by kernel_rfl) trivial
theorem spec_BufRight.b (N : Nat) (x0 : den s24) : body (spec_BufRight.cfg N) N Try.f18 [.one] [.v] [(false, .imm)] [⟨s24, .imm, x0⟩] (fun r i => some (r, i)) = bindO (spec_BufRight N x0) fun r => some ([⟨.bool, .imm, r⟩], []) := by
  show _ = bindF _ _
  conv => rhs; simp only [spec_BufRight, bindF_ifB, bindF_bindO, bindF_pure, bindF_none, bindF_onSum]
  kernel_rfl
theorem spec_BufRight.ok (N : Nat) : ConOk Try.prog 18 [.one] (spec_BufRight.con N) := ok1 (g := spec_BufRight.cfg N) (N := N) (res := [(false, .imm)]) tys_ok (spec_BufRight.cons N) mixed Try.func18 (spec_BufRight.ls N) rfl (spec_BufRight.b N)
theorem spec_BufRight.det (N : Nat) : ConDet (spec_BufRight.con N) := det1
def spec_l08Size.con (N : Nat) : Con := { modes := [.v, .v], ptrs := [false], fn := fn2 (.int .i64) .imm (.int .i64) .imm (spec_l08Size N) (fun r => [⟨.bool, .imm, r⟩]) (fun r => []) }
def spec_l08Size.cfg (N : Nat) : Cfg := { ty := tys, keep := [], flt := [], elm := elm0, live := [], ord := [], con := [], loops := [], joins := [] }
theorem spec_l08Size.cons (N : Nat) : ConsOk Try.prog (spec_l08Size.cfg N).con := consOk_nil
theorem spec_l08Size.ls (N : Nat) : LoopsOk Try.prog (spec_l08Size.cfg N) (fnBody Try.f19) := loopsL (l := []) (by kernel_rfl) trivial
theorem spec_l08Size.b (N : Nat) (x0 : den (.int .i64)) (x1 : den (.int .i64)) : body (spec_l08Size.cfg N) N Try.f19 [.one, .one] [.v, .v] [(false, .imm)] [⟨(.int .i64), .imm, x0⟩, ⟨(.int .i64), .imm, x1⟩] (fun r i => some (r, i)) = bindO (spec_l08Size N x0 x1) fun r => some ([⟨.bool, .imm, r⟩], []) := by
  show _ = bindF _ _
  conv => rhs; simp only [spec_l08Size, bindF_ifB, bindF_bindO, bindF_pure, bindF_none, bindF_onSum]
  kernel_rfl
theorem spec_l08Size.ok (N : Nat) : ConOk Try.prog 19 [.one, .one] (spec_l08Size.con N) := ok2 (g := spec_l08Size.cfg N) (N := N) (res := [(false, .imm)]) tys_ok (spec_l08Size.cons N) mixed Try.func19 (spec_l08Size.ls N) rfl (spec_l08Size.b N)
theorem spec_l08Size.det (N : Nat) : ConDet (spec_l08Size.con N) := det2
def spec_l09Pen_next.con (N : Nat) : Con := { modes := [.io], ptrs := [], fn := fn1 s64 (.pr .imm (.pr (.own (.own (.pr (.own .imm) .imm))) .imm)) (spec_l09Pen_next N) (fun r => []) (fun r => [⟨s64, (.pr .imm (.pr (.own (.own (.pr (.own .imm) .imm))) .imm)), r⟩]) }
def spec_l09Pen_next.cfg (N : Nat) : Cfg := { ty := tys, keep := [], flt := [], elm := elm0, live := [], ord := [(0, [0, 1, 2, 3, 4, 5, 6, 7, 8, 9, 10, 11, 12, 13, 14])], con := [], loops := [], joins := [] }
theorem spec_l09Pen_next.cons (N : Nat) : ConsOk Try.prog (spec_l09Pen_next.cfg N).con := consOk_nil
theorem spec_l09Pen_next.ls (N : Nat) : LoopsOk Try.prog (spec_l09Pen_next.cfg N) (fnBody Try.f32) := loopsL (l := []) (by kernel_rfl) trivial
theorem spec_l09Pen_next.b (N : Nat) (x0 : den s64) : body (spec_l09Pen_next.cfg N) N Try.f32 [.one] [.io] [] [⟨s64, (.pr .imm (.pr (.own (.own (.pr (.own .imm) .imm))) .imm)), x0⟩] (fun r i => some (r, i)) = bindO (spec_l09Pen_next N x0) fun r => some ([], [⟨s64, (.pr .imm (.pr (.own (.own (.pr (.own .imm) .imm))) .imm)), r⟩]) := by
  show _ = bindF _ _
  conv => rhs; simp only [spec_l09Pen_next, bindF_ifB, bindF_bindO, bindF_pure, bindF_none, bindF_onSum]
  kernel_rfl
theorem spec_l09Pen_next.ok (N : Nat) : ConOk Try.prog 32 [.one] (spec_l09Pen_next.con N) := ok1 (g := spec_l09Pen_next.cfg N) (N := N) (res := []) tys_ok (spec_l09Pen_next.cons N) mixed Try.func32 (spec_l09Pen_next.ls N) rfl (spec_l09Pen_next.b N)
theorem spec_l09Pen_next.det (N : Nat) : ConDet (spec_l09Pen_next.con N) := det1
def spec_l01Shown.con (N : Nat) : Con := { modes := [.v], ptrs := [false], fn := fn1 (.int .i64) .imm (spec_l01Shown N) (fun r => [⟨s23, (.own .imm), r⟩]) (fun r => []) }
def spec_l01Shown.cfg (N : Nat) : Cfg := { ty := tys, keep := [], flt := [], elm := elm0, live := [], ord := [], con := [], loops := [], joins := [] }
theorem spec_l01Shown.cons (N : Nat) : ConsOk Try.prog (spec_l01Shown.cfg N).con := consOk_nil
theorem spec_l01Shown.ls (N : Nat) : LoopsOk Try.prog (spec_l01Shown.cfg N) (fnBody Try.f45) := loopsL (l := []) (by kernel_rfl) trivial
theorem spec_l01Shown.b (N : Nat) (x0 : den (.int .i64)) : body (spec_l01Shown.cfg N) N Try.f45 [.one] [.v] [(false, (.own .imm))] [⟨(.int .i64), .imm, x0⟩] (fun r i => some (r, i)) = bindO (spec_l01Shown N x0) fun r => some ([⟨s23, (.own .imm), r⟩], []) := by
  show _ = bindF _ _
  conv => rhs; simp only [spec_l01Shown, bindF_ifB, bindF_bindO, bindF_pure, bindF_none, bindF_onSum]
  kernel_rfl
theorem spec_l01Shown.ok (N : Nat) : ConOk Try.prog 45 [.one] (spec_l01Shown.con N) := ok1 (g := spec_l01Shown.cfg N) (N := N) (res := [(false, (.own .imm))]) tys_ok (spec_l01Shown.cons N) mixed Try.func45 (spec_l01Shown.ls N) rfl (spec_l01Shown.b N)
theorem spec_l01Shown.det (N : Nat) : ConDet (spec_l01Shown.con N) := det1
end Go.AE.F
end
