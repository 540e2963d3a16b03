/- The printed functions are what the program comes to: contracts. -/
import Derived.Test.YtjdehlkgnbcedaaLSpotsL3
noncomputable section
namespace Go.AE.F
open Go.AE Go.Proofs
set_option maxRecDepth 100000
def laws_FnSpots.sk11 : Skel := ⟨dd 3 (.ov 50 [] :: (.ptr 51 [] :: (.pv (.int .i64) :: (.pv (.int .i64) :: (.ptr 52 [] :: (.pv (.int .i64) :: (dd 77 []))))))), [⟨50, s23, (.own .imm), false, false⟩, ⟨51, s24, (.pr (.own .imm) .imm), true, false⟩, ⟨52, s30, .imm, true, false⟩]⟩
def laws_FnSpots.xs11 : List XS := [⟨.exit 0, [6, 7], ⟨dd 6 (.pv (.int .i64) :: (.ptr 50 [] :: (dd 78 []))), [⟨50, s30, .imm, true, false⟩]⟩⟩, ⟨.ret, [2], ⟨dd 2 (.pv .bool :: (dd 83 [])), []⟩⟩]
def laws_FnSpots.con (N : Nat) : Con := { modes := [.v], ptrs := [false], fn := fn1 s22 .imm (laws_FnSpots N) (fun r => [⟨.bool, .imm, r⟩]) (fun r => []) }
def laws_FnSpots.cfg (N : Nat) : Cfg := { ty := tys, keep := [15, 20, 23, 28, 41, 45, 51], flt := [], elm := elm0, live := [(11, [3, 4, 5, 6, 7, 8])], ord := [(4, [0, 2, 3, 1, 4, 5]), (13, [6, 0, 2, 3, 4, 1, 5, 7]), (14, [0, 1, 2, 3, 4, 5, 6, 7, 8, 9, 10, 11, 12, 13, 14, 15, 16, 17, 18, 19, 20, 21, 22, 23, 24, 25, 26, 27, 28, 29, 30, 31, 32, 33])], con := [((4, [.one]), spec_DrawViewRows.con N), ((6, [.one]), laws_lwCopy.con N), ((5, [.one, .one, .one]), impl_ViewRows.con N), ((7, [.one, .one, .one]), spec_ViewRows.con N), ((8, [.one, .one, .one, .one]), impl_ViewSpot.con N), ((9, [.one, .one, .one, .one]), spec_ViewSpot.con N)], loops := [(11, loopCon N laws_FnSpots.sk11 laws_FnSpots.xs11 (fun {R} => laws_FnSpots.l11 (R := R) N))], joins := [(12, [⟨.normal, [3, 4, 5, 6, 7, 8], ⟨dd 3 (.ov 50 [] :: (.ptr 51 [] :: (.pv (.int .i64) :: (.pv (.int .i64) :: (.ptr 52 [] :: (.pv (.int .i64) :: (dd 77 []))))))), [⟨50, s23, (.own .imm), false, false⟩, ⟨51, s24, (.pr (.own .imm) .imm), true, false⟩, ⟨52, s30, .imm, true, false⟩]⟩⟩, ⟨.ret, [2], ⟨dd 2 (.pv .bool :: (dd 83 [])), []⟩⟩])] }
theorem laws_FnSpots.cons (N : Nat) : ConsOk Try.prog (laws_FnSpots.cfg N).con := (consOk_cons (hb4) (spec_DrawViewRows.ok N) (spec_DrawViewRows.det N) (consOk_cons (hb6) (laws_lwCopy.ok N) (laws_lwCopy.det N) (consOk_cons (hb5) (impl_ViewRows.ok N) (impl_ViewRows.det N) (consOk_cons (hb7) (spec_ViewRows.ok N) (spec_ViewRows.det N) (consOk_cons (hb8) (impl_ViewSpot.ok N) (impl_ViewSpot.det N) (consOk_cons (hb9) (spec_ViewSpot.ok N) (spec_ViewSpot.det N) consOk_nil))))))
theorem laws_FnSpots.h11 {R : Type} (N : Nat) (d : laws_FnSpots.sk11.D) (kn : laws_FnSpots.sk11.D → Option R) (kx : XD laws_FnSpots.xs11 → Option R) : roundK (laws_FnSpots.cfg N) N (nthLoop (fnBody Try.f3) 0) laws_FnSpots.sk11 laws_FnSpots.xs11 d kn kx = laws_FnSpots.l11 N d kn kx := by kernel_rfl
theorem laws_FnSpots.i11 (N : Nat) : LoopsOk Try.prog (laws_FnSpots.cfg N) (nthLoop (fnBody Try.f3) 0) := loopsL (l := []) (by kernel_rfl) trivial
theorem laws_FnSpots.o11 (N : Nat) : LoopOk Try.prog (nthLoop (fnBody Try.f3) 0) (loopCon N laws_FnSpots.sk11 laws_FnSpots.xs11 (fun {R} => laws_FnSpots.l11 (R := R) N)) := loop_ok (g := laws_FnSpots.cfg N) tys_ok (laws_FnSpots.cons N) mixed (laws_FnSpots.i11 N) (fun d kn kx => laws_FnSpots.h11 N d kn kx)
theorem laws_FnSpots.ls (N : Nat) : LoopsOk Try.prog (laws_FnSpots.cfg N) (fnBody Try.f3) := loopsL (l := [nthLoop (fnBody Try.f3) 0]) (by kernel_rfl) ⟨loopOne (L0 := loopCon N laws_FnSpots.sk11 laws_FnSpots.xs11 (fun {R} => laws_FnSpots.l11 (R := R) N)) (id := 11) (by kernel_rfl) (by kernel_rfl) (laws_FnSpots.o11 N), trivial⟩
theorem laws_FnSpots.q11 {R R' : Type} {N n : Nat} {d} {k} {g : R → Option R'} : bindF (loopP (laws_FnSpots.l11 N) n d k) g = loopP (laws_FnSpots.l11 N) n d fun e => bindF (k e) g := bindF_loopP (fun d kn kx => by simp only [laws_FnSpots.l11, bindF_ifB, bindF_bindO, bindF_pure, bindF_none, bindF_onSum]) n d k
theorem laws_FnSpots.b (N : Nat) (x0 : den s22) : body (laws_FnSpots.cfg N) N Try.f3 [.one] [.v] [(false, .imm)] [⟨s22, .imm, x0⟩] (fun r i => some (r, i)) = bindO (laws_FnSpots N x0) fun r => some ([⟨.bool, .imm, r⟩], []) := by
  show _ = bindF _ _
  conv => rhs; simp only [laws_FnSpots, bindF_ifB, bindF_bindO, bindF_pure, bindF_none, bindF_onSum, laws_FnSpots.q11]
  kernel_rfl
theorem laws_FnSpots.ok (N : Nat) : ConOk Try.prog 3 [.one] (laws_FnSpots.con N) := ok1 (g := laws_FnSpots.cfg N) (N := N) (res := [(false, .imm)]) tys_ok (laws_FnSpots.cons N) mixed Try.func3 (laws_FnSpots.ls N) rfl (laws_FnSpots.b N)
theorem laws_FnSpots.det (N : Nat) : ConDet (laws_FnSpots.con N) := det1
end Go.AE.F
end
