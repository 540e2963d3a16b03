/- The printed functions are what the program comes to: contracts. -/
import Derived.Test.YthiefncabaphpaaXMachineStepsL5
noncomputable section
namespace Go.AE.F
open Go.AE Go.Proofs
set_option maxRecDepth 100000
def impl_replace.con (N : Nat) : Con := { modes := [.v, .v, .v, .v], ptrs := [false], fn := fn4 s24 .imm (.int .i64) .imm (.int .i64) .imm s23 .imm (impl_replace N) (fun r => [⟨s82, (.pr (.pr (.own .imm) .imm) (.pr (.own .imm) .imm)), r⟩]) (fun r => []) }
def impl_replace.cfg (N : Nat) : Cfg := { ty := tys, keep := [23, 28, 35, 51, 55, 59, 72, 81], flt := [], elm := elm0, live := [], ord := [(1, [0, 1, 2, 3, 4, 5, 6, 7, 8, 9, 10, 11, 12, 13]), (3, [6, 0, 2, 3, 4, 1, 5, 7]), (4, [0, 1, 3, 2, 4, 5]), (7, [20, 0, 1, 2, 3, 4, 5, 6, 7, 8, 11, 12, 13, 15, 16, 17, 9, 10, 14, 18, 19, 21]), (9, [0, 1, 2, 3, 4, 5]), (10, [0, 1, 2, 3, 4, 5, 6, 7, 8])], con := [((53, [.one]), impl_size_Sint64.con N), ((88, [.one]), slices_Concat_Sint64_int64.con N), ((87, [.one]), impl_replace_c1.con N), ((48, [.one]), slices_Clone_Sint64_int64.con N)], loops := [], joins := [] }
theorem impl_replace.cons (N : Nat) : ConsOk Try.prog (impl_replace.cfg N).con := (consOk_cons (hb53) (impl_size_Sint64.ok N) (impl_size_Sint64.det N) (consOk_cons (hb88) (slices_Concat_Sint64_int64.ok N) (slices_Concat_Sint64_int64.det N) (consOk_cons (hb87) (impl_replace_c1.ok N) (impl_replace_c1.det N) (consOk_cons (hb48) (slices_Clone_Sint64_int64.ok N) (slices_Clone_Sint64_int64.det N) consOk_nil))))
theorem impl_replace.ls (N : Nat) : LoopsOk Try.prog (impl_replace.cfg N) (fnBody Try.f75) := loopsL (l := []) (by kernel_rfl) trivial
theorem impl_replace.b (N : Nat) (x0 : den s24) (x1 : den (.int .i64)) (x2 : den (.int .i64)) (x3 : den s23) : body (impl_replace.cfg N) N Try.f75 [.one, .one, .one, .one] [.v, .v, .v, .v] [(false, (.pr (.pr (.own .imm) .imm) (.pr (.own .imm) .imm)))] [⟨s24, .imm, x0⟩, ⟨(.int .i64), .imm, x1⟩, ⟨(.int .i64), .imm, x2⟩, ⟨s23, .imm, x3⟩] (fun r i => some (r, i)) = bindO (impl_replace N x0 x1 x2 x3) fun r => some ([⟨s82, (.pr (.pr (.own .imm) .imm) (.pr (.own .imm) .imm)), r⟩], []) := by
  show _ = bindF _ _
  conv => rhs; simp only [impl_replace, bindF_ifB, bindF_bindO, bindF_pure, bindF_none, bindF_onSum]
  kernel_rfl
theorem impl_replace.ok (N : Nat) : ConOk Try.prog 75 [.one, .one, .one, .one] (impl_replace.con N) := ok4 (g := impl_replace.cfg N) (N := N) (res := [(false, (.pr (.pr (.own .imm) .imm) (.pr (.own .imm) .imm)))]) tys_ok (impl_replace.cons N) mixed Try.func75 (impl_replace.ls N) rfl (impl_replace.b N)
theorem impl_replace.det (N : Nat) : ConDet (impl_replace.con N) := det4
def impl_scene_took.con (N : Nat) : Con := { modes := [.io, .v], ptrs := [], fn := fn2 s39 .imm s82 .imm (impl_scene_took N) (fun r => []) (fun r => [⟨s39, .imm, r⟩]) }
def impl_scene_took.cfg (N : Nat) : Cfg := { ty := tys, keep := [], flt := [], elm := elm0, live := [], ord := [], con := [], loops := [], joins := [] }
theorem impl_scene_took.cons (N : Nat) : ConsOk Try.prog (impl_scene_took.cfg N).con := consOk_nil
theorem impl_scene_took.ls (N : Nat) : LoopsOk Try.prog (impl_scene_took.cfg N) (fnBody Try.f74) := loopsL (l := []) (by kernel_rfl) trivial
theorem impl_scene_took.b (N : Nat) (x0 : den s39) (x1 : den s82) : body (impl_scene_took.cfg N) N Try.f74 [.one, .one] [.io, .v] [] [⟨s39, .imm, x0⟩, ⟨s82, .imm, x1⟩] (fun r i => some (r, i)) = bindO (impl_scene_took N x0 x1) fun r => some ([], [⟨s39, .imm, r⟩]) := by
  show _ = bindF _ _
  conv => rhs; simp only [impl_scene_took, bindF_ifB, bindF_bindO, bindF_pure, bindF_none, bindF_onSum]
  kernel_rfl
theorem impl_scene_took.ok (N : Nat) : ConOk Try.prog 74 [.one, .one] (impl_scene_took.con N) := ok2 (g := impl_scene_took.cfg N) (N := N) (res := []) tys_ok (impl_scene_took.cons N) mixed Try.func74 (impl_scene_took.ls N) rfl (impl_scene_took.b N)
theorem impl_scene_took.det (N : Nat) : ConDet (impl_scene_took.con N) := det2
def impl_scene_insert.con (N : Nat) : Con := { modes := [.io, .v], ptrs := [], fn := fn2 s39 .imm (.int .i64) .imm (impl_scene_insert N) (fun r => []) (fun r => [⟨s39, .imm, r⟩]) }
def impl_scene_insert.cfg (N : Nat) : Cfg := { ty := tys, keep := [5, 27, 28], flt := [], elm := elm0, live := [], ord := [(2, [0, 1, 2, 3, 4, 5, 6, 7, 8, 9, 10, 11, 12, 13, 14, 15, 16, 17, 18])], con := [((73, [.one]), impl_isPoint.con N), ((75, [.one, .one, .one, .one]), impl_replace.con N), ((74, [.one, .one]), impl_scene_took.con N)], loops := [], joins := [] }
theorem impl_scene_insert.cons (N : Nat) : ConsOk Try.prog (impl_scene_insert.cfg N).con := (consOk_cons (hb73) (impl_isPoint.ok N) (impl_isPoint.det N) (consOk_cons (hb75) (impl_replace.ok N) (impl_replace.det N) (consOk_cons (hb74) (impl_scene_took.ok N) (impl_scene_took.det N) consOk_nil)))
theorem impl_scene_insert.ls (N : Nat) : LoopsOk Try.prog (impl_scene_insert.cfg N) (fnBody Try.f57) := loopsL (l := []) (by kernel_rfl) trivial
theorem impl_scene_insert.b (N : Nat) (x0 : den s39) (x1 : den (.int .i64)) : body (impl_scene_insert.cfg N) N Try.f57 [.one, .one] [.io, .v] [] [⟨s39, .imm, x0⟩, ⟨(.int .i64), .imm, x1⟩] (fun r i => some (r, i)) = bindO (impl_scene_insert N x0 x1) fun r => some ([], [⟨s39, .imm, r⟩]) := by
  show _ = bindF _ _
  conv => rhs; simp only [impl_scene_insert, bindF_ifB, bindF_bindO, bindF_pure, bindF_none, bindF_onSum]
  kernel_rfl
theorem impl_scene_insert.ok (N : Nat) : ConOk Try.prog 57 [.one, .one] (impl_scene_insert.con N) := ok2 (g := impl_scene_insert.cfg N) (N := N) (res := []) tys_ok (impl_scene_insert.cons N) mixed Try.func57 (impl_scene_insert.ls N) rfl (impl_scene_insert.b N)
theorem impl_scene_insert.det (N : Nat) : ConDet (impl_scene_insert.con N) := det2
def impl_scene_delete.con (N : Nat) : Con := { modes := [.io, .v, .v], ptrs := [], fn := fn3 s39 .imm (.int .i64) .imm (.int .i64) .imm (impl_scene_delete N) (fun r => []) (fun r => [⟨s39, .imm, r⟩]) }
def impl_scene_delete.cfg (N : Nat) : Cfg := { ty := tys, keep := [13, 14], flt := [], elm := elm0, live := [], ord := [], con := [((75, [.one, .one, .one, .one]), impl_replace.con N), ((74, [.one, .one]), impl_scene_took.con N)], loops := [], joins := [] }
theorem impl_scene_delete.cons (N : Nat) : ConsOk Try.prog (impl_scene_delete.cfg N).con := (consOk_cons (hb75) (impl_replace.ok N) (impl_replace.det N) (consOk_cons (hb74) (impl_scene_took.ok N) (impl_scene_took.det N) consOk_nil))
theorem impl_scene_delete.ls (N : Nat) : LoopsOk Try.prog (impl_scene_delete.cfg N) (fnBody Try.f58) := loopsL (l := []) (by kernel_rfl) trivial
theorem impl_scene_delete.b (N : Nat) (x0 : den s39) (x1 : den (.int .i64)) (x2 : den (.int .i64)) : body (impl_scene_delete.cfg N) N Try.f58 [.one, .one, .one] [.io, .v, .v] [] [⟨s39, .imm, x0⟩, ⟨(.int .i64), .imm, x1⟩, ⟨(.int .i64), .imm, x2⟩] (fun r i => some (r, i)) = bindO (impl_scene_delete N x0 x1 x2) fun r => some ([], [⟨s39, .imm, r⟩]) := by
  show _ = bindF _ _
  conv => rhs; simp only [impl_scene_delete, bindF_ifB, bindF_bindO, bindF_pure, bindF_none, bindF_onSum]
  kernel_rfl
theorem impl_scene_delete.ok (N : Nat) : ConOk Try.prog 58 [.one, .one, .one] (impl_scene_delete.con N) := ok3 (g := impl_scene_delete.cfg N) (N := N) (res := []) tys_ok (impl_scene_delete.cons N) mixed Try.func58 (impl_scene_delete.ls N) rfl (impl_scene_delete.b N)
theorem impl_scene_delete.det (N : Nat) : ConDet (impl_scene_delete.con N) := det3
def impl_scene_goTo.con (N : Nat) : Con := { modes := [.io, .v], ptrs := [], fn := fn2 s39 .imm (.int .i64) .imm (impl_scene_goTo N) (fun r => []) (fun r => [⟨s39, .imm, r⟩]) }
def impl_scene_goTo.cfg (N : Nat) : Cfg := { ty := tys, keep := [8], flt := [], elm := elm0, live := [], ord := [], con := [((47, [.one, .one]), impl_Buf_isPlace.con N)], loops := [], joins := [] }
theorem impl_scene_goTo.cons (N : Nat) : ConsOk Try.prog (impl_scene_goTo.cfg N).con := (consOk_cons (hb47) (impl_Buf_isPlace.ok N) (impl_Buf_isPlace.det N) consOk_nil)
theorem impl_scene_goTo.ls (N : Nat) : LoopsOk Try.prog (impl_scene_goTo.cfg N) (fnBody Try.f59) := loopsL (l := []) (by kernel_rfl) trivial
theorem impl_scene_goTo.b (N : Nat) (x0 : den s39) (x1 : den (.int .i64)) : body (impl_scene_goTo.cfg N) N Try.f59 [.one, .one] [.io, .v] [] [⟨s39, .imm, x0⟩, ⟨(.int .i64), .imm, x1⟩] (fun r i => some (r, i)) = bindO (impl_scene_goTo N x0 x1) fun r => some ([], [⟨s39, .imm, r⟩]) := by
  show _ = bindF _ _
  conv => rhs; simp only [impl_scene_goTo, bindF_ifB, bindF_bindO, bindF_pure, bindF_none, bindF_onSum]
  kernel_rfl
theorem impl_scene_goTo.ok (N : Nat) : ConOk Try.prog 59 [.one, .one] (impl_scene_goTo.con N) := ok2 (g := impl_scene_goTo.cfg N) (N := N) (res := []) tys_ok (impl_scene_goTo.cons N) mixed Try.func59 (impl_scene_goTo.ls N) rfl (impl_scene_goTo.b N)
theorem impl_scene_goTo.det (N : Nat) : ConDet (impl_scene_goTo.con N) := det2
def impl_scene_markAt.con (N : Nat) : Con := { modes := [.io, .v], ptrs := [], fn := fn2 s39 .imm (.int .i64) .imm (impl_scene_markAt N) (fun r => []) (fun r => [⟨s39, .imm, r⟩]) }
def impl_scene_markAt.cfg (N : Nat) : Cfg := { ty := tys, keep := [8], flt := [], elm := elm0, live := [], ord := [], con := [((47, [.one, .one]), impl_Buf_isPlace.con N)], loops := [], joins := [] }
theorem impl_scene_markAt.cons (N : Nat) : ConsOk Try.prog (impl_scene_markAt.cfg N).con := (consOk_cons (hb47) (impl_Buf_isPlace.ok N) (impl_Buf_isPlace.det N) consOk_nil)
theorem impl_scene_markAt.ls (N : Nat) : LoopsOk Try.prog (impl_scene_markAt.cfg N) (fnBody Try.f60) := loopsL (l := []) (by kernel_rfl) trivial
theorem impl_scene_markAt.b (N : Nat) (x0 : den s39) (x1 : den (.int .i64)) : body (impl_scene_markAt.cfg N) N Try.f60 [.one, .one] [.io, .v] [] [⟨s39, .imm, x0⟩, ⟨(.int .i64), .imm, x1⟩] (fun r i => some (r, i)) = bindO (impl_scene_markAt N x0 x1) fun r => some ([], [⟨s39, .imm, r⟩]) := by
  show _ = bindF _ _
  conv => rhs; simp only [impl_scene_markAt, bindF_ifB, bindF_bindO, bindF_pure, bindF_none, bindF_onSum]
  kernel_rfl
theorem impl_scene_markAt.ok (N : Nat) : ConOk Try.prog 60 [.one, .one] (impl_scene_markAt.con N) := ok2 (g := impl_scene_markAt.cfg N) (N := N) (res := []) tys_ok (impl_scene_markAt.cons N) mixed Try.func60 (impl_scene_markAt.ls N) rfl (impl_scene_markAt.b N)
theorem impl_scene_markAt.det (N : Nat) : ConDet (impl_scene_markAt.con N) := det2
def impl_ClassOf.con (N : Nat) : Con := { modes := [.v], ptrs := [false], fn := fn1 (.int .i64) .imm (impl_ClassOf N) (fun r => [⟨(.int .i64), .imm, r⟩]) (fun r => []) }
def impl_ClassOf.cfg (N : Nat) : Cfg := { ty := tys, keep := [5, 20, 23, 27], flt := [], elm := elm0, live := [], ord := [], con := [((73, [.one]), impl_isPoint.con N), ((33, [.one, .one, .one]), impl_within.con N)], loops := [], joins := [] }
theorem impl_ClassOf.cons (N : Nat) : ConsOk Try.prog (impl_ClassOf.cfg N).con := (consOk_cons (hb73) (impl_isPoint.ok N) (impl_isPoint.det N) (consOk_cons (hb33) (impl_within.ok N) (impl_within.det N) consOk_nil))
theorem impl_ClassOf.ls (N : Nat) : LoopsOk Try.prog (impl_ClassOf.cfg N) (fnBody Try.f103) := loopsL (l := []) (by kernel_rfl) trivial
theorem impl_ClassOf.b (N : Nat) (x0 : den (.int .i64)) : body (impl_ClassOf.cfg N) N Try.f103 [.one] [.v] [(false, .imm)] [⟨(.int .i64), .imm, x0⟩] (fun r i => some (r, i)) = bindO (impl_ClassOf N x0) fun r => some ([⟨(.int .i64), .imm, r⟩], []) := by
  show _ = bindF _ _
  conv => rhs; simp only [impl_ClassOf, bindF_ifB, bindF_bindO, bindF_pure, bindF_none, bindF_onSum]
  kernel_rfl
theorem impl_ClassOf.ok (N : Nat) : ConOk Try.prog 103 [.one] (impl_ClassOf.con N) := ok1 (g := impl_ClassOf.cfg N) (N := N) (res := [(false, .imm)]) tys_ok (impl_ClassOf.cons N) mixed Try.func103 (impl_ClassOf.ls N) rfl (impl_ClassOf.b N)
theorem impl_ClassOf.det (N : Nat) : ConDet (impl_ClassOf.con N) := det1
def impl_Buf_isWord.con (N : Nat) : Con := { modes := [.rd, .v], ptrs := [false], fn := fn2 s24 .imm (.int .i64) .imm (impl_Buf_isWord N) (fun r => [⟨.bool, .imm, r⟩]) (fun r => []) }
def impl_Buf_isWord.cfg (N : Nat) : Cfg := { ty := tys, keep := [12], flt := [], elm := elm0, live := [], ord := [], con := [((103, [.one]), impl_ClassOf.con N)], loops := [], joins := [] }
theorem impl_Buf_isWord.cons (N : Nat) : ConsOk Try.prog (impl_Buf_isWord.cfg N).con := (consOk_cons (hb103) (impl_ClassOf.ok N) (impl_ClassOf.det N) consOk_nil)
theorem impl_Buf_isWord.ls (N : Nat) : LoopsOk Try.prog (impl_Buf_isWord.cfg N) (fnBody Try.f100) := loopsL (l := []) (by kernel_rfl) trivial
theorem impl_Buf_isWord.b (N : Nat) (x0 : den s24) (x1 : den (.int .i64)) : body (impl_Buf_isWord.cfg N) N Try.f100 [.one, .one] [.rd, .v] [(false, .imm)] [⟨s24, .imm, x0⟩, ⟨(.int .i64), .imm, x1⟩] (fun r i => some (r, i)) = bindO (impl_Buf_isWord N x0 x1) fun r => some ([⟨.bool, .imm, r⟩], []) := by
  show _ = bindF _ _
  conv => rhs; simp only [impl_Buf_isWord, bindF_ifB, bindF_bindO, bindF_pure, bindF_none, bindF_onSum]
  kernel_rfl
theorem impl_Buf_isWord.ok (N : Nat) : ConOk Try.prog 100 [.one, .one] (impl_Buf_isWord.con N) := ok2 (g := impl_Buf_isWord.cfg N) (N := N) (res := [(false, .imm)]) tys_ok (impl_Buf_isWord.cons N) mixed Try.func100 (impl_Buf_isWord.ls N) rfl (impl_Buf_isWord.b N)
theorem impl_Buf_isWord.det (N : Nat) : ConDet (impl_Buf_isWord.con N) := det2
def impl_Buf_wordBack.sk1 : Skel := ⟨.rp s24 :: (.pv (.int .i64) :: (dd 25 [])), []⟩
def impl_Buf_wordBack.xs1 : List XS := [⟨.exit 0, [0, 1, 19, 20, 21, 22], ⟨.rp s24 :: (.pv (.int .i64) :: (dd 25 [])), []⟩⟩]
def impl_Buf_wordBack.sk3 : Skel := ⟨.rp s24 :: (.pv (.int .i64) :: (dd 25 [])), []⟩
def impl_Buf_wordBack.xs3 : List XS := [⟨.exit 2, [1], ⟨dd 1 (.pv (.int .i64) :: (dd 25 [])), []⟩⟩]
def impl_Buf_wordBack.con (N : Nat) : Con := { modes := [.rd, .v], ptrs := [false], fn := fn2 s24 .imm (.int .i64) .imm (impl_Buf_wordBack N) (fun r => [⟨(.int .i64), .imm, r⟩]) (fun r => []) }
def impl_Buf_wordBack.cfg (N : Nat) : Cfg := { ty := tys, keep := [11, 22], flt := [], elm := elm0, live := [(3, [0, 1, 19, 20, 21, 22]), (1, [0, 1, 8, 9, 10, 11, 12, 19, 20, 21, 22])], ord := [], con := [((100, [.one, .one]), impl_Buf_isWord.con N)], loops := [(1, loopCon N impl_Buf_wordBack.sk1 impl_Buf_wordBack.xs1 (fun {R} => impl_Buf_wordBack.l1 (R := R) N)), (3, loopCon N impl_Buf_wordBack.sk3 impl_Buf_wordBack.xs3 (fun {R} => impl_Buf_wordBack.l3 (R := R) N))], joins := [] }
theorem impl_Buf_wordBack.cons (N : Nat) : ConsOk Try.prog (impl_Buf_wordBack.cfg N).con := (consOk_cons (hb100) (impl_Buf_isWord.ok N) (impl_Buf_isWord.det N) consOk_nil)
theorem impl_Buf_wordBack.h3 {R : Type} (N : Nat) (d : impl_Buf_wordBack.sk3.D) (kn : impl_Buf_wordBack.sk3.D → Option R) (kx : XD impl_Buf_wordBack.xs3 → Option R) : roundK (impl_Buf_wordBack.cfg N) N (nthLoop (fnBody Try.f94) 1) impl_Buf_wordBack.sk3 impl_Buf_wordBack.xs3 d kn kx = impl_Buf_wordBack.l3 N d kn kx := by kernel_rfl
theorem impl_Buf_wordBack.i3 (N : Nat) : LoopsOk Try.prog (impl_Buf_wordBack.cfg N) (nthLoop (fnBody Try.f94) 1) := loopsL (l := []) (by kernel_rfl) trivial
theorem impl_Buf_wordBack.o3 (N : Nat) : LoopOk Try.prog (nthLoop (fnBody Try.f94) 1) (loopCon N impl_Buf_wordBack.sk3 impl_Buf_wordBack.xs3 (fun {R} => impl_Buf_wordBack.l3 (R := R) N)) := loop_ok (g := impl_Buf_wordBack.cfg N) tys_ok (impl_Buf_wordBack.cons N) mixed (impl_Buf_wordBack.i3 N) (fun d kn kx => impl_Buf_wordBack.h3 N d kn kx)
theorem impl_Buf_wordBack.h1 {R : Type} (N : Nat) (d : impl_Buf_wordBack.sk1.D) (kn : impl_Buf_wordBack.sk1.D → Option R) (kx : XD impl_Buf_wordBack.xs1 → Option R) : roundK (impl_Buf_wordBack.cfg N) N (nthLoop (fnBody Try.f94) 0) impl_Buf_wordBack.sk1 impl_Buf_wordBack.xs1 d kn kx = impl_Buf_wordBack.l1 N d kn kx := by kernel_rfl
theorem impl_Buf_wordBack.i1 (N : Nat) : LoopsOk Try.prog (impl_Buf_wordBack.cfg N) (nthLoop (fnBody Try.f94) 0) := loopsL (l := []) (by kernel_rfl) trivial
theorem impl_Buf_wordBack.o1 (N : Nat) : LoopOk Try.prog (nthLoop (fnBody Try.f94) 0) (loopCon N impl_Buf_wordBack.sk1 impl_Buf_wordBack.xs1 (fun {R} => impl_Buf_wordBack.l1 (R := R) N)) := loop_ok (g := impl_Buf_wordBack.cfg N) tys_ok (impl_Buf_wordBack.cons N) mixed (impl_Buf_wordBack.i1 N) (fun d kn kx => impl_Buf_wordBack.h1 N d kn kx)
theorem impl_Buf_wordBack.ls (N : Nat) : LoopsOk Try.prog (impl_Buf_wordBack.cfg N) (fnBody Try.f94) := loopsL (l := [nthLoop (fnBody Try.f94) 0, nthLoop (fnBody Try.f94) 1]) (by kernel_rfl) ⟨loopOne (L0 := loopCon N impl_Buf_wordBack.sk1 impl_Buf_wordBack.xs1 (fun {R} => impl_Buf_wordBack.l1 (R := R) N)) (id := 1) (by kernel_rfl) (by kernel_rfl) (impl_Buf_wordBack.o1 N), ⟨loopOne (L0 := loopCon N impl_Buf_wordBack.sk3 impl_Buf_wordBack.xs3 (fun {R} => impl_Buf_wordBack.l3 (R := R) N)) (id := 3) (by kernel_rfl) (by kernel_rfl) (impl_Buf_wordBack.o3 N), trivial⟩⟩
theorem impl_Buf_wordBack.q3 {R R' : Type} {N n : Nat} {d} {k} {g : R → Option R'} : bindF (loopP (impl_Buf_wordBack.l3 N) n d k) g = loopP (impl_Buf_wordBack.l3 N) n d fun e => bindF (k e) g := bindF_loopP (fun d kn kx => by simp only [impl_Buf_wordBack.l3, bindF_ifB, bindF_bindO, bindF_pure, bindF_none, bindF_onSum]) n d k
theorem impl_Buf_wordBack.q1 {R R' : Type} {N n : Nat} {d} {k} {g : R → Option R'} : bindF (loopP (impl_Buf_wordBack.l1 N) n d k) g = loopP (impl_Buf_wordBack.l1 N) n d fun e => bindF (k e) g := bindF_loopP (fun d kn kx => by simp only [impl_Buf_wordBack.l1, bindF_ifB, bindF_bindO, bindF_pure, bindF_none, bindF_onSum]) n d k
theorem impl_Buf_wordBack.b (N : Nat) (x0 : den s24) (x1 : den (.int .i64)) : body (impl_Buf_wordBack.cfg N) N Try.f94 [.one, .one] [.rd, .v] [(false, .imm)] [⟨s24, .imm, x0⟩, ⟨(.int .i64), .imm, x1⟩] (fun r i => some (r, i)) = bindO (impl_Buf_wordBack N x0 x1) fun r => some ([⟨(.int .i64), .imm, r⟩], []) := by
  show _ = bindF _ _
  conv => rhs; simp only [impl_Buf_wordBack, bindF_ifB, bindF_bindO, bindF_pure, bindF_none, bindF_onSum, impl_Buf_wordBack.q1, impl_Buf_wordBack.q3]
  kernel_rfl
theorem impl_Buf_wordBack.ok (N : Nat) : ConOk Try.prog 94 [.one, .one] (impl_Buf_wordBack.con N) := ok2 (g := impl_Buf_wordBack.cfg N) (N := N) (res := [(false, .imm)]) tys_ok (impl_Buf_wordBack.cons N) mixed Try.func94 (impl_Buf_wordBack.ls N) rfl (impl_Buf_wordBack.b N)
theorem impl_Buf_wordBack.det (N : Nat) : ConDet (impl_Buf_wordBack.con N) := det2
def impl_Buf_wordNext.sk2 : Skel := ⟨.rp s24 :: (.pv (.int .i64) :: (dd 3 (.pv (.int .i64) :: (dd 27 [])))), []⟩
def impl_Buf_wordNext.xs2 : List XS := [⟨.exit 0, [0, 1, 5, 26, 27, 28], ⟨.rp s24 :: (.pv (.int .i64) :: (dd 3 (.pv (.int .i64) :: (dd 27 [])))), []⟩⟩]
def impl_Buf_wordNext.sk4 : Skel := ⟨.rp s24 :: (.pv (.int .i64) :: (dd 3 (.pv (.int .i64) :: (dd 27 [])))), []⟩
def impl_Buf_wordNext.xs4 : List XS := [⟨.exit 2, [1], ⟨dd 1 (.pv (.int .i64) :: (dd 31 [])), []⟩⟩]
def impl_Buf_wordNext.con (N : Nat) : Con := { modes := [.rd, .v], ptrs := [false], fn := fn2 s24 .imm (.int .i64) .imm (impl_Buf_wordNext N) (fun r => [⟨(.int .i64), .imm, r⟩]) (fun r => []) }
def impl_Buf_wordNext.cfg (N : Nat) : Cfg := { ty := tys, keep := [10, 17, 28], flt := [], elm := elm0, live := [(4, [0, 1, 5, 26, 27, 28]), (2, [0, 1, 5, 15, 16, 17, 18, 26, 27, 28])], ord := [], con := [((53, [.one]), impl_size_Sint64.con N), ((100, [.one, .one]), impl_Buf_isWord.con N)], loops := [(2, loopCon N impl_Buf_wordNext.sk2 impl_Buf_wordNext.xs2 (fun {R} => impl_Buf_wordNext.l2 (R := R) N)), (4, loopCon N impl_Buf_wordNext.sk4 impl_Buf_wordNext.xs4 (fun {R} => impl_Buf_wordNext.l4 (R := R) N))], joins := [] }
theorem impl_Buf_wordNext.cons (N : Nat) : ConsOk Try.prog (impl_Buf_wordNext.cfg N).con := (consOk_cons (hb53) (impl_size_Sint64.ok N) (impl_size_Sint64.det N) (consOk_cons (hb100) (impl_Buf_isWord.ok N) (impl_Buf_isWord.det N) consOk_nil))
theorem impl_Buf_wordNext.h4 {R : Type} (N : Nat) (d : impl_Buf_wordNext.sk4.D) (kn : impl_Buf_wordNext.sk4.D → Option R) (kx : XD impl_Buf_wordNext.xs4 → Option R) : roundK (impl_Buf_wordNext.cfg N) N (nthLoop (fnBody Try.f95) 1) impl_Buf_wordNext.sk4 impl_Buf_wordNext.xs4 d kn kx = impl_Buf_wordNext.l4 N d kn kx := by kernel_rfl
theorem impl_Buf_wordNext.i4 (N : Nat) : LoopsOk Try.prog (impl_Buf_wordNext.cfg N) (nthLoop (fnBody Try.f95) 1) := loopsL (l := []) (by kernel_rfl) trivial
theorem impl_Buf_wordNext.o4 (N : Nat) : LoopOk Try.prog (nthLoop (fnBody Try.f95) 1) (loopCon N impl_Buf_wordNext.sk4 impl_Buf_wordNext.xs4 (fun {R} => impl_Buf_wordNext.l4 (R := R) N)) := loop_ok (g := impl_Buf_wordNext.cfg N) tys_ok (impl_Buf_wordNext.cons N) mixed (impl_Buf_wordNext.i4 N) (fun d kn kx => impl_Buf_wordNext.h4 N d kn kx)
theorem impl_Buf_wordNext.h2 {R : Type} (N : Nat) (d : impl_Buf_wordNext.sk2.D) (kn : impl_Buf_wordNext.sk2.D → Option R) (kx : XD impl_Buf_wordNext.xs2 → Option R) : roundK (impl_Buf_wordNext.cfg N) N (nthLoop (fnBody Try.f95) 0) impl_Buf_wordNext.sk2 impl_Buf_wordNext.xs2 d kn kx = impl_Buf_wordNext.l2 N d kn kx := by kernel_rfl
theorem impl_Buf_wordNext.i2 (N : Nat) : LoopsOk Try.prog (impl_Buf_wordNext.cfg N) (nthLoop (fnBody Try.f95) 0) := loopsL (l := []) (by kernel_rfl) trivial
theorem impl_Buf_wordNext.o2 (N : Nat) : LoopOk Try.prog (nthLoop (fnBody Try.f95) 0) (loopCon N impl_Buf_wordNext.sk2 impl_Buf_wordNext.xs2 (fun {R} => impl_Buf_wordNext.l2 (R := R) N)) := loop_ok (g := impl_Buf_wordNext.cfg N) tys_ok (impl_Buf_wordNext.cons N) mixed (impl_Buf_wordNext.i2 N) (fun d kn kx => impl_Buf_wordNext.h2 N d kn kx)
theorem impl_Buf_wordNext.ls (N : Nat) : LoopsOk Try.prog (impl_Buf_wordNext.cfg N) (fnBody Try.f95) := loopsL (l := [nthLoop (fnBody Try.f95) 0, nthLoop (fnBody Try.f95) 1]) (by kernel_rfl) ⟨loopOne (L0 := loopCon N impl_Buf_wordNext.sk2 impl_Buf_wordNext.xs2 (fun {R} => impl_Buf_wordNext.l2 (R := R) N)) (id := 2) (by kernel_rfl) (by kernel_rfl) (impl_Buf_wordNext.o2 N), ⟨loopOne (L0 := loopCon N impl_Buf_wordNext.sk4 impl_Buf_wordNext.xs4 (fun {R} => impl_Buf_wordNext.l4 (R := R) N)) (id := 4) (by kernel_rfl) (by kernel_rfl) (impl_Buf_wordNext.o4 N), trivial⟩⟩
theorem impl_Buf_wordNext.q4 {R R' : Type} {N n : Nat} {d} {k} {g : R → Option R'} : bindF (loopP (impl_Buf_wordNext.l4 N) n d k) g = loopP (impl_Buf_wordNext.l4 N) n d fun e => bindF (k e) g := bindF_loopP (fun d kn kx => by simp only [impl_Buf_wordNext.l4, bindF_ifB, bindF_bindO, bindF_pure, bindF_none, bindF_onSum]) n d k
theorem impl_Buf_wordNext.q2 {R R' : Type} {N n : Nat} {d} {k} {g : R → Option R'} : bindF (loopP (impl_Buf_wordNext.l2 N) n d k) g = loopP (impl_Buf_wordNext.l2 N) n d fun e => bindF (k e) g := bindF_loopP (fun d kn kx => by simp only [impl_Buf_wordNext.l2, bindF_ifB, bindF_bindO, bindF_pure, bindF_none, bindF_onSum]) n d k
theorem impl_Buf_wordNext.b (N : Nat) (x0 : den s24) (x1 : den (.int .i64)) : body (impl_Buf_wordNext.cfg N) N Try.f95 [.one, .one] [.rd, .v] [(false, .imm)] [⟨s24, .imm, x0⟩, ⟨(.int .i64), .imm, x1⟩] (fun r i => some (r, i)) = bindO (impl_Buf_wordNext N x0 x1) fun r => some ([⟨(.int .i64), .imm, r⟩], []) := by
  show _ = bindF _ _
  conv => rhs; simp only [impl_Buf_wordNext, bindF_ifB, bindF_bindO, bindF_pure, bindF_none, bindF_onSum, impl_Buf_wordNext.q2, impl_Buf_wordNext.q4]
  kernel_rfl
theorem impl_Buf_wordNext.ok (N : Nat) : ConOk Try.prog 95 [.one, .one] (impl_Buf_wordNext.con N) := ok2 (g := impl_Buf_wordNext.cfg N) (N := N) (res := [(false, .imm)]) tys_ok (impl_Buf_wordNext.cons N) mixed Try.func95 (impl_Buf_wordNext.ls N) rfl (impl_Buf_wordNext.b N)
theorem impl_Buf_wordNext.det (N : Nat) : ConDet (impl_Buf_wordNext.con N) := det2
def impl_Buf_start.sk1 : Skel := ⟨.rp s24 :: (.pv (.int .i64) :: (dd 19 [])), []⟩
def impl_Buf_start.xs1 : List XS := [⟨.exit 0, [1], ⟨dd 1 (.pv (.int .i64) :: (dd 19 [])), []⟩⟩]
def impl_Buf_start.con (N : Nat) : Con := { modes := [.rd, .v], ptrs := [false], fn := fn2 s24 .imm (.int .i64) .imm (impl_Buf_start N) (fun r => [⟨(.int .i64), .imm, r⟩]) (fun r => []) }
def impl_Buf_start.cfg (N : Nat) : Cfg := { ty := tys, keep := [], flt := [], elm := elm0, live := [(1, [0, 1, 8, 9, 10, 11, 12, 13, 14, 15, 16])], ord := [], con := [], loops := [(1, loopCon N impl_Buf_start.sk1 impl_Buf_start.xs1 (fun {R} => impl_Buf_start.l1 (R := R) N))], joins := [] }
theorem impl_Buf_start.cons (N : Nat) : ConsOk Try.prog (impl_Buf_start.cfg N).con := consOk_nil
theorem impl_Buf_start.h1 {R : Type} (N : Nat) (d : impl_Buf_start.sk1.D) (kn : impl_Buf_start.sk1.D → Option R) (kx : XD impl_Buf_start.xs1 → Option R) : roundK (impl_Buf_start.cfg N) N (nthLoop (fnBody Try.f96) 0) impl_Buf_start.sk1 impl_Buf_start.xs1 d kn kx = impl_Buf_start.l1 N d kn kx := by kernel_rfl
theorem impl_Buf_start.i1 (N : Nat) : LoopsOk Try.prog (impl_Buf_start.cfg N) (nthLoop (fnBody Try.f96) 0) := loopsL (l := []) (by kernel_rfl) trivial
theorem impl_Buf_start.o1 (N : Nat) : LoopOk Try.prog (nthLoop (fnBody Try.f96) 0) (loopCon N impl_Buf_start.sk1 impl_Buf_start.xs1 (fun {R} => impl_Buf_start.l1 (R := R) N)) := loop_ok (g := impl_Buf_start.cfg N) tys_ok (impl_Buf_start.cons N) mixed (impl_Buf_start.i1 N) (fun d kn kx => impl_Buf_start.h1 N d kn kx)
theorem impl_Buf_start.ls (N : Nat) : LoopsOk Try.prog (impl_Buf_start.cfg N) (fnBody Try.f96) := loopsL (l := [nthLoop (fnBody Try.f96) 0]) (by kernel_rfl) ⟨loopOne (L0 := loopCon N impl_Buf_start.sk1 impl_Buf_start.xs1 (fun {R} => impl_Buf_start.l1 (R := R) N)) (id := 1) (by kernel_rfl) (by kernel_rfl) (impl_Buf_start.o1 N), trivial⟩
theorem impl_Buf_start.q1 {R R' : Type} {N n : Nat} {d} {k} {g : R → Option R'} : bindF (loopP (impl_Buf_start.l1 N) n d k) g = loopP (impl_Buf_start.l1 N) n d fun e => bindF (k e) g := bindF_loopP (fun d kn kx => by simp only [impl_Buf_start.l1, bindF_ifB, bindF_bindO, bindF_pure, bindF_none, bindF_onSum]) n d k
theorem impl_Buf_start.b (N : Nat) (x0 : den s24) (x1 : den (.int .i64)) : body (impl_Buf_start.cfg N) N Try.f96 [.one, .one] [.rd, .v] [(false, .imm)] [⟨s24, .imm, x0⟩, ⟨(.int .i64), .imm, x1⟩] (fun r i => some (r, i)) = bindO (impl_Buf_start N x0 x1) fun r => some ([⟨(.int .i64), .imm, r⟩], []) := by
  show _ = bindF _ _
  conv => rhs; simp only [impl_Buf_start, bindF_ifB, bindF_bindO, bindF_pure, bindF_none, bindF_onSum, impl_Buf_start.q1]
  kernel_rfl
theorem impl_Buf_start.ok (N : Nat) : ConOk Try.prog 96 [.one, .one] (impl_Buf_start.con N) := ok2 (g := impl_Buf_start.cfg N) (N := N) (res := [(false, .imm)]) tys_ok (impl_Buf_start.cons N) mixed Try.func96 (impl_Buf_start.ls N) rfl (impl_Buf_start.b N)
theorem impl_Buf_start.det (N : Nat) : ConDet (impl_Buf_start.con N) := det2
def impl_Buf_end.sk1 : Skel := ⟨.rp s24 :: (.pv (.int .i64) :: (dd 23 [])), []⟩
def impl_Buf_end.xs1 : List XS := [⟨.exit 0, [1], ⟨dd 1 (.pv (.int .i64) :: (dd 23 [])), []⟩⟩]
def impl_Buf_end.con (N : Nat) : Con := { modes := [.rd, .v], ptrs := [false], fn := fn2 s24 .imm (.int .i64) .imm (impl_Buf_end N) (fun r => [⟨(.int .i64), .imm, r⟩]) (fun r => []) }
def impl_Buf_end.cfg (N : Nat) : Cfg := { ty := tys, keep := [10], flt := [], elm := elm0, live := [(1, [0, 1, 13, 14, 15, 16, 17, 18, 19, 20])], ord := [], con := [((53, [.one]), impl_size_Sint64.con N)], loops := [(1, loopCon N impl_Buf_end.sk1 impl_Buf_end.xs1 (fun {R} => impl_Buf_end.l1 (R := R) N))], joins := [] }
theorem impl_Buf_end.cons (N : Nat) : ConsOk Try.prog (impl_Buf_end.cfg N).con := (consOk_cons (hb53) (impl_size_Sint64.ok N) (impl_size_Sint64.det N) consOk_nil)
theorem impl_Buf_end.h1 {R : Type} (N : Nat) (d : impl_Buf_end.sk1.D) (kn : impl_Buf_end.sk1.D → Option R) (kx : XD impl_Buf_end.xs1 → Option R) : roundK (impl_Buf_end.cfg N) N (nthLoop (fnBody Try.f97) 0) impl_Buf_end.sk1 impl_Buf_end.xs1 d kn kx = impl_Buf_end.l1 N d kn kx := by kernel_rfl
theorem impl_Buf_end.i1 (N : Nat) : LoopsOk Try.prog (impl_Buf_end.cfg N) (nthLoop (fnBody Try.f97) 0) := loopsL (l := []) (by kernel_rfl) trivial
theorem impl_Buf_end.o1 (N : Nat) : LoopOk Try.prog (nthLoop (fnBody Try.f97) 0) (loopCon N impl_Buf_end.sk1 impl_Buf_end.xs1 (fun {R} => impl_Buf_end.l1 (R := R) N)) := loop_ok (g := impl_Buf_end.cfg N) tys_ok (impl_Buf_end.cons N) mixed (impl_Buf_end.i1 N) (fun d kn kx => impl_Buf_end.h1 N d kn kx)
theorem impl_Buf_end.ls (N : Nat) : LoopsOk Try.prog (impl_Buf_end.cfg N) (fnBody Try.f97) := loopsL (l := [nthLoop (fnBody Try.f97) 0]) (by kernel_rfl) ⟨loopOne (L0 := loopCon N impl_Buf_end.sk1 impl_Buf_end.xs1 (fun {R} => impl_Buf_end.l1 (R := R) N)) (id := 1) (by kernel_rfl) (by kernel_rfl) (impl_Buf_end.o1 N), trivial⟩
theorem impl_Buf_end.q1 {R R' : Type} {N n : Nat} {d} {k} {g : R → Option R'} : bindF (loopP (impl_Buf_end.l1 N) n d k) g = loopP (impl_Buf_end.l1 N) n d fun e => bindF (k e) g := bindF_loopP (fun d kn kx => by simp only [impl_Buf_end.l1, bindF_ifB, bindF_bindO, bindF_pure, bindF_none, bindF_onSum]) n d k
theorem impl_Buf_end.b (N : Nat) (x0 : den s24) (x1 : den (.int .i64)) : body (impl_Buf_end.cfg N) N Try.f97 [.one, .one] [.rd, .v] [(false, .imm)] [⟨s24, .imm, x0⟩, ⟨(.int .i64), .imm, x1⟩] (fun r i => some (r, i)) = bindO (impl_Buf_end N x0 x1) fun r => some ([⟨(.int .i64), .imm, r⟩], []) := by
  show _ = bindF _ _
  conv => rhs; simp only [impl_Buf_end, bindF_ifB, bindF_bindO, bindF_pure, bindF_none, bindF_onSum, impl_Buf_end.q1]
  kernel_rfl
theorem impl_Buf_end.ok (N : Nat) : ConOk Try.prog 97 [.one, .one] (impl_Buf_end.con N) := ok2 (g := impl_Buf_end.cfg N) (N := N) (res := [(false, .imm)]) tys_ok (impl_Buf_end.cons N) mixed Try.func97 (impl_Buf_end.ls N) rfl (impl_Buf_end.b N)
theorem impl_Buf_end.det (N : Nat) : ConDet (impl_Buf_end.con N) := det2
end Go.AE.F
end
