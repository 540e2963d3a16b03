/- The printed functions are what the program comes to: contracts. -/
import Derived.Test.YtdhcgpbgefhgfaaXEdNamesL1
noncomputable section
namespace Go.AE.F
open Go.AE Go.Proofs
set_option maxRecDepth 100000
def laws_eqStringS.sk4 : Skel := ⟨.pv (.sl 9 .str) :: (.pv (.sl 9 .str) :: (dd 3 (.pv (.int .i64) :: (dd 20 [])))), []⟩
def laws_eqStringS.xs4 : List XS := [⟨.exit 0, [], ⟨dd 26 [], []⟩⟩, ⟨.ret, [4], ⟨dd 4 (.pv .bool :: (dd 21 [])), []⟩⟩]
def laws_eqStringS.con (N : Nat) : Con := { modes := [.v, .v], ptrs := [false], fn := fn2 (.sl 9 .str) .imm (.sl 9 .str) .imm (laws_eqStringS N) (fun r => [⟨.bool, .imm, r⟩]) (fun r => []) }
def laws_eqStringS.cfg (N : Nat) : Cfg := { ty := tys, keep := [], flt := [], elm := elm0, live := [(4, [0, 1, 5])], ord := [(6, [0, 1, 2, 3, 4, 5, 6, 7, 8])], con := [], loops := [(4, loopCon N laws_eqStringS.sk4 laws_eqStringS.xs4 (fun {R} => laws_eqStringS.l4 (R := R) N))], joins := [] }
theorem laws_eqStringS.cons (N : Nat) : ConsOk Try.prog (laws_eqStringS.cfg N).con := consOk_nil
theorem laws_eqStringS.h4 {R : Type} (N : Nat) (d : laws_eqStringS.sk4.D) (kn : laws_eqStringS.sk4.D → Option R) (kx : XD laws_eqStringS.xs4 → Option R) : roundK (laws_eqStringS.cfg N) N (nthLoop (fnBody Try.f6) 0) laws_eqStringS.sk4 laws_eqStringS.xs4 d kn kx = laws_eqStringS.l4 N d kn kx := by kernel_rfl
theorem laws_eqStringS.i4 (N : Nat) : LoopsOk Try.prog (laws_eqStringS.cfg N) (nthLoop (fnBody Try.f6) 0) := loopsL (l := []) (by kernel_rfl) trivial
theorem laws_eqStringS.o4 (N : Nat) : LoopOk Try.prog (nthLoop (fnBody Try.f6) 0) (loopCon N laws_eqStringS.sk4 laws_eqStringS.xs4 (fun {R} => laws_eqStringS.l4 (R := R) N)) := loop_ok (g := laws_eqStringS.cfg N) tys_ok (laws_eqStringS.cons N) mixed (laws_eqStringS.i4 N) (fun d kn kx => laws_eqStringS.h4 N d kn kx)
theorem laws_eqStringS.ls (N : Nat) : LoopsOk Try.prog (laws_eqStringS.cfg N) (fnBody Try.f6) := loopsL (l := [nthLoop (fnBody Try.f6) 0]) (by kernel_rfl) ⟨loopOne (L0 := loopCon N laws_eqStringS.sk4 laws_eqStringS.xs4 (fun {R} => laws_eqStringS.l4 (R := R) N)) (id := 4) (by kernel_rfl) (by kernel_rfl) (laws_eqStringS.o4 N), trivial⟩
theorem laws_eqStringS.q4 {R R' : Type} {N n : Nat} {d} {k} {g : R → Option R'} : bindF (loopP (laws_eqStringS.l4 N) n d k) g = loopP (laws_eqStringS.l4 N) n d fun e => bindF (k e) g := bindF_loopP (fun d kn kx => by simp only [laws_eqStringS.l4, bindF_ifB, bindF_bindO, bindF_pure, bindF_none, bindF_onSum]) n d k
theorem laws_eqStringS.b (N : Nat) (x0 : den (.sl 9 .str)) (x1 : den (.sl 9 .str)) : body (laws_eqStringS.cfg N) N Try.f6 [.one, .one] [.v, .v] [(false, .imm)] [⟨(.sl 9 .str), .imm, x0⟩, ⟨(.sl 9 .str), .imm, x1⟩] (fun r i => some (r, i)) = bindO (laws_eqStringS N x0 x1) fun r => some ([⟨.bool, .imm, r⟩], []) := by
  show _ = bindF _ _
  conv => rhs; simp only [laws_eqStringS, bindF_ifB, bindF_bindO, bindF_pure, bindF_none, bindF_onSum, laws_eqStringS.q4]
  kernel_rfl
theorem laws_eqStringS.ok (N : Nat) : ConOk Try.prog 6 [.one, .one] (laws_eqStringS.con N) := ok2 (g := laws_eqStringS.cfg N) (N := N) (res := [(false, .imm)]) tys_ok (laws_eqStringS.cons N) mixed Try.func6 (laws_eqStringS.ls N) rfl (laws_eqStringS.b N)
theorem laws_eqStringS.det (N : Nat) : ConDet (laws_eqStringS.con N) := det2
def laws_markText.sk4 : Skel := ⟨.pv (.int .i64) :: (dd 2 (.pv .str :: (dd 16 []))), []⟩
def laws_markText.xs4 : List XS := [⟨.exit 0, [3], ⟨dd 3 (.pv .str :: (dd 16 [])), []⟩⟩]
def laws_markText.con (N : Nat) : Con := { modes := [.v], ptrs := [false], fn := fn1 (.int .i64) .imm (laws_markText N) (fun r => [⟨.str, .imm, r⟩]) (fun r => []) }
def laws_markText.cfg (N : Nat) : Cfg := { ty := tys, keep := [], flt := [], elm := elm0, live := [(4, [0, 3])], ord := [], con := [], loops := [(4, loopCon N laws_markText.sk4 laws_markText.xs4 (fun {R} => laws_markText.l4 (R := R) N))], joins := [] }
theorem laws_markText.cons (N : Nat) : ConsOk Try.prog (laws_markText.cfg N).con := consOk_nil
theorem laws_markText.h4 {R : Type} (N : Nat) (d : laws_markText.sk4.D) (kn : laws_markText.sk4.D → Option R) (kx : XD laws_markText.xs4 → Option R) : roundK (laws_markText.cfg N) N (nthLoop (fnBody Try.f11) 0) laws_markText.sk4 laws_markText.xs4 d kn kx = laws_markText.l4 N d kn kx := by kernel_rfl
theorem laws_markText.i4 (N : Nat) : LoopsOk Try.prog (laws_markText.cfg N) (nthLoop (fnBody Try.f11) 0) := loopsL (l := []) (by kernel_rfl) trivial
theorem laws_markText.o4 (N : Nat) : LoopOk Try.prog (nthLoop (fnBody Try.f11) 0) (loopCon N laws_markText.sk4 laws_markText.xs4 (fun {R} => laws_markText.l4 (R := R) N)) := loop_ok (g := laws_markText.cfg N) tys_ok (laws_markText.cons N) mixed (laws_markText.i4 N) (fun d kn kx => laws_markText.h4 N d kn kx)
theorem laws_markText.ls (N : Nat) : LoopsOk Try.prog (laws_markText.cfg N) (fnBody Try.f11) := loopsL (l := [nthLoop (fnBody Try.f11) 0]) (by kernel_rfl) ⟨loopOne (L0 := loopCon N laws_markText.sk4 laws_markText.xs4 (fun {R} => laws_markText.l4 (R := R) N)) (id := 4) (by kernel_rfl) (by kernel_rfl) (laws_markText.o4 N), trivial⟩
theorem laws_markText.q4 {R R' : Type} {N n : Nat} {d} {k} {g : R → Option R'} : bindF (loopP (laws_markText.l4 N) n d k) g = loopP (laws_markText.l4 N) n d fun e => bindF (k e) g := bindF_loopP (fun d kn kx => by simp only [laws_markText.l4, bindF_ifB, bindF_bindO, bindF_pure, bindF_none, bindF_onSum]) n d k
theorem laws_markText.b (N : Nat) (x0 : den (.int .i64)) : body (laws_markText.cfg N) N Try.f11 [.one] [.v] [(false, .imm)] [⟨(.int .i64), .imm, x0⟩] (fun r i => some (r, i)) = bindO (laws_markText N x0) fun r => some ([⟨.str, .imm, r⟩], []) := by
  show _ = bindF _ _
  conv => rhs; simp only [laws_markText, bindF_ifB, bindF_bindO, bindF_pure, bindF_none, bindF_onSum, laws_markText.q4]
  kernel_rfl
theorem laws_markText.ok (N : Nat) : ConOk Try.prog 11 [.one] (laws_markText.con N) := ok1 (g := laws_markText.cfg N) (N := N) (res := [(false, .imm)]) tys_ok (laws_markText.cons N) mixed Try.func11 (laws_markText.ls N) rfl (laws_markText.b N)
theorem laws_markText.det (N : Nat) : ConDet (laws_markText.con N) := det1
def laws_markStringS.sk2 : Skel := ⟨.ov 0 [] :: (.pv (.int .i64) :: (dd 3 (.pv (.int .i64) :: (dd 14 [])))), [⟨0, (.sl 9 .str), (.own .imm), false, true⟩]⟩
def laws_markStringS.xs2 : List XS := [⟨.exit 0, [1], ⟨dd 1 (.pv (.int .i64) :: (dd 18 [])), [⟨0, (.sl 9 .str), (.own .imm), false, true⟩]⟩⟩]
def laws_markStringS.con (N : Nat) : Con := { modes := [.iov, .v], ptrs := [false], fn := fn2 (.sl 9 .str) (.own .imm) (.int .i64) .imm (laws_markStringS N) (fun r => [⟨(.int .i64), .imm, r.1⟩]) (fun r => [⟨(.sl 9 .str), (.own .imm), r.2⟩]) }
def laws_markStringS.cfg (N : Nat) : Cfg := { ty := tys, keep := [15], flt := [], elm := elm0, live := [(2, [0, 1, 5])], ord := [], con := [((11, [.one]), laws_markText.con N)], loops := [(2, loopCon N laws_markStringS.sk2 laws_markStringS.xs2 (fun {R} => laws_markStringS.l2 (R := R) N))], joins := [] }
theorem laws_markStringS.cons (N : Nat) : ConsOk Try.prog (laws_markStringS.cfg N).con := (consOk_cons (hb11) (laws_markText.ok N) (laws_markText.det N) consOk_nil)
theorem laws_markStringS.h2 {R : Type} (N : Nat) (d : laws_markStringS.sk2.D) (kn : laws_markStringS.sk2.D → Option R) (kx : XD laws_markStringS.xs2 → Option R) : roundK (laws_markStringS.cfg N) N (nthLoop (fnBody Try.f7) 0) laws_markStringS.sk2 laws_markStringS.xs2 d kn kx = laws_markStringS.l2 N d kn kx := by kernel_rfl
theorem laws_markStringS.i2 (N : Nat) : LoopsOk Try.prog (laws_markStringS.cfg N) (nthLoop (fnBody Try.f7) 0) := loopsL (l := []) (by kernel_rfl) trivial
theorem laws_markStringS.o2 (N : Nat) : LoopOk Try.prog (nthLoop (fnBody Try.f7) 0) (loopCon N laws_markStringS.sk2 laws_markStringS.xs2 (fun {R} => laws_markStringS.l2 (R := R) N)) := loop_ok (g := laws_markStringS.cfg N) tys_ok (laws_markStringS.cons N) mixed (laws_markStringS.i2 N) (fun d kn kx => laws_markStringS.h2 N d kn kx)
theorem laws_markStringS.ls (N : Nat) : LoopsOk Try.prog (laws_markStringS.cfg N) (fnBody Try.f7) := loopsL (l := [nthLoop (fnBody Try.f7) 0]) (by kernel_rfl) ⟨loopOne (L0 := loopCon N laws_markStringS.sk2 laws_markStringS.xs2 (fun {R} => laws_markStringS.l2 (R := R) N)) (id := 2) (by kernel_rfl) (by kernel_rfl) (laws_markStringS.o2 N), trivial⟩
theorem laws_markStringS.q2 {R R' : Type} {N n : Nat} {d} {k} {g : R → Option R'} : bindF (loopP (laws_markStringS.l2 N) n d k) g = loopP (laws_markStringS.l2 N) n d fun e => bindF (k e) g := bindF_loopP (fun d kn kx => by simp only [laws_markStringS.l2, bindF_ifB, bindF_bindO, bindF_pure, bindF_none, bindF_onSum]) n d k
theorem laws_markStringS.b (N : Nat) (x0 : den (.sl 9 .str)) (x1 : den (.int .i64)) : body (laws_markStringS.cfg N) N Try.f7 [.one, .one] [.iov, .v] [(false, .imm)] [⟨(.sl 9 .str), (.own .imm), x0⟩, ⟨(.int .i64), .imm, x1⟩] (fun r i => some (r, i)) = bindO (laws_markStringS N x0 x1) fun r => some ([⟨(.int .i64), .imm, r.1⟩], [⟨(.sl 9 .str), (.own .imm), r.2⟩]) := by
  show _ = bindF _ _
  conv => rhs; simp only [laws_markStringS, bindF_ifB, bindF_bindO, bindF_pure, bindF_none, bindF_onSum, laws_markStringS.q2]
  kernel_rfl
theorem laws_markStringS.ok (N : Nat) : ConOk Try.prog 7 [.one, .one] (laws_markStringS.con N) := ok2 (g := laws_markStringS.cfg N) (N := N) (res := [(false, .imm)]) tys_ok (laws_markStringS.cons N) mixed Try.func7 (laws_markStringS.ls N) rfl (laws_markStringS.b N)
theorem laws_markStringS.det (N : Nat) : ConDet (laws_markStringS.con N) := det2
def laws_heldStringS.sk2 : Skel := ⟨.pv (.sl 9 .str) :: (.pv (.int .i64) :: (dd 3 (.pv (.int .i64) :: (dd 16 [])))), []⟩
def laws_heldStringS.xs2 : List XS := [⟨.exit 0, [1], ⟨dd 1 (.pv (.int .i64) :: (dd 20 [])), []⟩⟩, ⟨.ret, [4], ⟨dd 4 (.pv (.int .i64) :: (dd 17 [])), []⟩⟩]
def laws_heldStringS.con (N : Nat) : Con := { modes := [.v, .v], ptrs := [false], fn := fn2 (.sl 9 .str) .imm (.int .i64) .imm (laws_heldStringS N) (fun r => [⟨(.int .i64), .imm, r⟩]) (fun r => []) }
def laws_heldStringS.cfg (N : Nat) : Cfg := { ty := tys, keep := [17], flt := [], elm := elm0, live := [(2, [0, 1, 5])], ord := [(4, [0, 1, 2, 3, 4, 5, 6])], con := [((11, [.one]), laws_markText.con N)], loops := [(2, loopCon N laws_heldStringS.sk2 laws_heldStringS.xs2 (fun {R} => laws_heldStringS.l2 (R := R) N))], joins := [] }
theorem laws_heldStringS.cons (N : Nat) : ConsOk Try.prog (laws_heldStringS.cfg N).con := (consOk_cons (hb11) (laws_markText.ok N) (laws_markText.det N) consOk_nil)
theorem laws_heldStringS.h2 {R : Type} (N : Nat) (d : laws_heldStringS.sk2.D) (kn : laws_heldStringS.sk2.D → Option R) (kx : XD laws_heldStringS.xs2 → Option R) : roundK (laws_heldStringS.cfg N) N (nthLoop (fnBody Try.f8) 0) laws_heldStringS.sk2 laws_heldStringS.xs2 d kn kx = laws_heldStringS.l2 N d kn kx := by kernel_rfl
theorem laws_heldStringS.i2 (N : Nat) : LoopsOk Try.prog (laws_heldStringS.cfg N) (nthLoop (fnBody Try.f8) 0) := loopsL (l := []) (by kernel_rfl) trivial
theorem laws_heldStringS.o2 (N : Nat) : LoopOk Try.prog (nthLoop (fnBody Try.f8) 0) (loopCon N laws_heldStringS.sk2 laws_heldStringS.xs2 (fun {R} => laws_heldStringS.l2 (R := R) N)) := loop_ok (g := laws_heldStringS.cfg N) tys_ok (laws_heldStringS.cons N) mixed (laws_heldStringS.i2 N) (fun d kn kx => laws_heldStringS.h2 N d kn kx)
theorem laws_heldStringS.ls (N : Nat) : LoopsOk Try.prog (laws_heldStringS.cfg N) (fnBody Try.f8) := loopsL (l := [nthLoop (fnBody Try.f8) 0]) (by kernel_rfl) ⟨loopOne (L0 := loopCon N laws_heldStringS.sk2 laws_heldStringS.xs2 (fun {R} => laws_heldStringS.l2 (R := R) N)) (id := 2) (by kernel_rfl) (by kernel_rfl) (laws_heldStringS.o2 N), trivial⟩
theorem laws_heldStringS.q2 {R R' : Type} {N n : Nat} {d} {k} {g : R → Option R'} : bindF (loopP (laws_heldStringS.l2 N) n d k) g = loopP (laws_heldStringS.l2 N) n d fun e => bindF (k e) g := bindF_loopP (fun d kn kx => by simp only [laws_heldStringS.l2, bindF_ifB, bindF_bindO, bindF_pure, bindF_none, bindF_onSum]) n d k
theorem laws_heldStringS.b (N : Nat) (x0 : den (.sl 9 .str)) (x1 : den (.int .i64)) : body (laws_heldStringS.cfg N) N Try.f8 [.one, .one] [.v, .v] [(false, .imm)] [⟨(.sl 9 .str), .imm, x0⟩, ⟨(.int .i64), .imm, x1⟩] (fun r i => some (r, i)) = bindO (laws_heldStringS N x0 x1) fun r => some ([⟨(.int .i64), .imm, r⟩], []) := by
  show _ = bindF _ _
  conv => rhs; simp only [laws_heldStringS, bindF_ifB, bindF_bindO, bindF_pure, bindF_none, bindF_onSum, laws_heldStringS.q2]
  kernel_rfl
theorem laws_heldStringS.ok (N : Nat) : ConOk Try.prog 8 [.one, .one] (laws_heldStringS.con N) := ok2 (g := laws_heldStringS.cfg N) (N := N) (res := [(false, .imm)]) tys_ok (laws_heldStringS.cons N) mixed Try.func8 (laws_heldStringS.ls N) rfl (laws_heldStringS.b N)
theorem laws_heldStringS.det (N : Nat) : ConDet (laws_heldStringS.con N) := det2
def laws_FnExactEdNames.con (N : Nat) : Con := { modes := [], ptrs := [false], fn := fun ds k => match ds with | [] => bindO (laws_FnExactEdNames N) fun r => k [⟨.bool, .imm, r⟩] [] | _ => none }
def laws_FnExactEdNames.cfg (N : Nat) : Cfg := { ty := tys, keep := [6, 7, 10, 14, 17, 23, 26, 30], flt := [], elm := elm0, live := [], ord := [], con := [((4, []), spec_EdNames.con N), ((5, []), impl_EdNames.con N), ((6, [.one, .one]), laws_eqStringS.con N), ((7, [.one, .one]), laws_markStringS.con N), ((8, [.one, .one]), laws_heldStringS.con N)], loops := [], joins := [] }
theorem laws_FnExactEdNames.cons (N : Nat) : ConsOk Try.prog (laws_FnExactEdNames.cfg N).con := (consOk_cons (hb4) (spec_EdNames.ok N) (spec_EdNames.det N) (consOk_cons (hb5) (impl_EdNames.ok N) (impl_EdNames.det N) (consOk_cons (hb6) (laws_eqStringS.ok N) (laws_eqStringS.det N) (consOk_cons (hb7) (laws_markStringS.ok N) (laws_markStringS.det N) (consOk_cons (hb8) (laws_heldStringS.ok N) (laws_heldStringS.det N) consOk_nil)))))
theorem laws_FnExactEdNames.ls (N : Nat) : LoopsOk Try.prog (laws_FnExactEdNames.cfg N) (fnBody Try.f3) := loopsL (l := []) (by kernel_rfl) trivial
theorem laws_FnExactEdNames.b (N : Nat)  : body (laws_FnExactEdNames.cfg N) N Try.f3 [] [] [(false, .imm)] [] (fun r i => some (r, i)) = bindO (laws_FnExactEdNames N) fun r => some ([⟨.bool, .imm, r⟩], []) := by
  show _ = bindF _ _
  conv => rhs; simp only [laws_FnExactEdNames, bindF_ifB, bindF_bindO, bindF_pure, bindF_none, bindF_onSum]
  kernel_rfl
theorem laws_FnExactEdNames.ok (N : Nat) : ConOk Try.prog 3 [] (laws_FnExactEdNames.con N) := by
  refine conOk_mk (g := laws_FnExactEdNames.cfg N) (N := N) (res := [(false, .imm)]) tys_ok (laws_FnExactEdNames.cons N) mixed Try.func3 (laws_FnExactEdNames.ls N) rfl rfl ?_
  intro ds R k y h
  cases ds with
  | cons _ _ => exact none_some h
  | nil =>
  have h0 : (bindO (laws_FnExactEdNames N) fun r => k [⟨.bool, .imm, r⟩] []) = some y := h
  clear h
  exact con_fin (laws_FnExactEdNames.b N) h0
theorem laws_FnExactEdNames.det (N : Nat) : ConDet (laws_FnExactEdNames.con N) := by
  intro ds R k y h
  cases ds with
  | cons _ _ => exact none_some h
  | nil =>
  have h0 : (bindO (laws_FnExactEdNames N) fun r => k [⟨.bool, .imm, r⟩] []) = some y := h
  clear h
  obtain ⟨r, e, h⟩ := bindO_some h0
  refine ⟨_, _, h, fun k' => ?_⟩
  show (bindO (laws_FnExactEdNames N) fun r => k' [⟨.bool, .imm, r⟩] []) = _
  skip
  rw [e]
  rfl
end Go.AE.F
end
