/- The printed functions are what the program comes to: contracts. -/
import Derived.Test.YteoociojgeokmaaDoorXSendL3
noncomputable section
namespace Go.AE.F
open Go.AE Go.Proofs Go.Lib
set_option maxRecDepth 100000
set_option maxHeartbeats 2000000 in
set_option maxRecDepth 100000 in
theorem strings_Builder_String.run : BltRun Tryd.prog 21 45 5 2 := by
  intro m w b p ad cap xs hR I
  have mixed := mixed
  have hcb : Tryd.prog.cellsOf 5 = 1 := by kernel_rfl
  have c1 : w.drew.cell? ⟨b, 1, none⟩ = some (.slice ad xs.length cap) := I.c1
  obtain ⟨q, w', hSD, hUS, S⟩ := I.string (P := Tryd.prog) (tS := 35) (pt := 66) (it := 3) (ty := 66) (ty2 := 9) Tryd.underlying66 hcb
  have hSD := hSD w.drew
  unfold self
  go_enter Tryd.func21, Tryd.ntmps21
  go_wp2
  go_region_o
  all_goals (go_wp2; go_ret; exact ⟨rfl, S⟩)
def strings_Builder_String.con (N : Nat) : Con := { modes := [], ptrs := [], bl := some (45, 5, 2), fn := fun _ _ => none }
theorem strings_Builder_String.ok (N : Nat) : ConOk Tryd.prog 21 [.one] (strings_Builder_String.con N) := ⟨fun h => (by cases h), fun b h => (by injection h with h; subst h; exact ⟨Tryd.zeroValue45, strings_Builder_String.run⟩)⟩
theorem strings_Builder_String.det (N : Nat) : ConDet (strings_Builder_String.con N) := fun ds R k y h => by cases h
def impl_Grid_sendRow.sk5 : Skel := ⟨dd 5 (.ptr 50 [] :: (.pv (.int .i64) :: (dd 23 (.pv s27 :: (.pv (.int .i64) :: (.pv (.int .i64) :: (dd 24 []))))))), [⟨50, (.pair (.sl 45 .unit) (.pair s35 .unit)), (.pr .imm (.pr (.own .imm) .imm)), true, false⟩]⟩
def impl_Grid_sendRow.xs5 : List XS := [⟨.exit 0, [5, 6], ⟨dd 5 (.ptr 50 [] :: (.pv (.int .i64) :: (dd 50 []))), [⟨50, (.pair (.sl 45 .unit) (.pair s35 .unit)), (.pr .imm (.pr (.own .imm) .imm)), true, false⟩]⟩⟩]
def impl_Grid_sendRow.con (N : Nat) : Con := { modes := [.rd, .v], ptrs := [false], fn := fn2 s28 .imm (.int .i64) .imm (impl_Grid_sendRow N) (fun r => [⟨.str, .imm, r⟩]) (fun r => []) }
def impl_Grid_sendRow.cfg (N : Nat) : Cfg := { ty := tys, keep := [10, 12, 36, 44, 47, 50, 51, 55, 56], flt := [], elm := elm0, live := [(5, [5, 6, 30, 31, 32])], ord := [(4, [0, 1, 2, 3, 4, 5, 6, 7, 8, 9, 10, 11, 12, 13, 14, 15, 16, 17, 19, 18])], con := [((20, [.one, .one]), impl_goTo.con N), ((17, [.one, .one]), strings_Builder_WriteString.con N), ((31, [.one]), impl_Cell_isEmpty.con N), ((36, [.one]), impl_decimal.con N), ((37, [.one]), impl_textOf.con N), ((21, [.one]), strings_Builder_String.con N)], loops := [(5, loopCon N impl_Grid_sendRow.sk5 impl_Grid_sendRow.xs5 (fun {R} => impl_Grid_sendRow.l5 (R := R) N))], joins := [(12, [⟨.normal, [5, 6, 30, 31, 32], ⟨dd 5 (.ptr 50 [] :: (.pv (.int .i64) :: (dd 23 (.pv s27 :: (.pv (.int .i64) :: (.pv (.int .i64) :: (dd 24 []))))))), [⟨50, (.pair (.sl 45 .unit) (.pair s35 .unit)), (.pr .imm (.pr (.own .imm) .imm)), true, false⟩]⟩⟩])] }
theorem impl_Grid_sendRow.cons (N : Nat) : ConsOk Tryd.prog (impl_Grid_sendRow.cfg N).con := (consOk_cons (hb20) (impl_goTo.ok N) (impl_goTo.det N) (consOk_cons (hb17) (strings_Builder_WriteString.ok N) (strings_Builder_WriteString.det N) (consOk_cons (hb31) (impl_Cell_isEmpty.ok N) (impl_Cell_isEmpty.det N) (consOk_cons (hb36) (impl_decimal.ok N) (impl_decimal.det N) (consOk_cons (hb37) (impl_textOf.ok N) (impl_textOf.det N) (consOk_cons (hb21) (strings_Builder_String.ok N) (strings_Builder_String.det N) consOk_nil))))))
theorem impl_Grid_sendRow.h5 {R : Type} (N : Nat) (d : impl_Grid_sendRow.sk5.D) (kn : impl_Grid_sendRow.sk5.D → Option R) (kx : XD impl_Grid_sendRow.xs5 → Option R) : roundK (impl_Grid_sendRow.cfg N) N (nthLoop (fnBody Tryd.f18) 0) impl_Grid_sendRow.sk5 impl_Grid_sendRow.xs5 d kn kx = impl_Grid_sendRow.l5 N d kn kx := by kernel_rfl
theorem impl_Grid_sendRow.i5 (N : Nat) : LoopsOk Tryd.prog (impl_Grid_sendRow.cfg N) (nthLoop (fnBody Tryd.f18) 0) := loopsL (l := []) (by kernel_rfl) trivial
theorem impl_Grid_sendRow.o5 (N : Nat) : LoopOk Tryd.prog (nthLoop (fnBody Tryd.f18) 0) (loopCon N impl_Grid_sendRow.sk5 impl_Grid_sendRow.xs5 (fun {R} => impl_Grid_sendRow.l5 (R := R) N)) := loop_ok (g := impl_Grid_sendRow.cfg N) tys_ok (impl_Grid_sendRow.cons N) mixed (impl_Grid_sendRow.i5 N) (fun d kn kx => impl_Grid_sendRow.h5 N d kn kx)
theorem impl_Grid_sendRow.ls (N : Nat) : LoopsOk Tryd.prog (impl_Grid_sendRow.cfg N) (fnBody Tryd.f18) := loopsL (l := [nthLoop (fnBody Tryd.f18) 0]) (by kernel_rfl) ⟨loopOne (L0 := loopCon N impl_Grid_sendRow.sk5 impl_Grid_sendRow.xs5 (fun {R} => impl_Grid_sendRow.l5 (R := R) N)) (id := 5) (by kernel_rfl) (by kernel_rfl) (impl_Grid_sendRow.o5 N), trivial⟩
theorem impl_Grid_sendRow.q5 {R R' : Type} {N n : Nat} {d} {k} {g : R → Option R'} : bindF (loopP (impl_Grid_sendRow.l5 N) n d k) g = loopP (impl_Grid_sendRow.l5 N) n d fun e => bindF (k e) g := bindF_loopP (fun d kn kx => by simp only [impl_Grid_sendRow.l5, bindF_ifB, bindF_bindO, bindF_pure, bindF_none, bindF_onSum]) n d k
theorem impl_Grid_sendRow.b (N : Nat) (x0 : den s28) (x1 : den (.int .i64)) : body (impl_Grid_sendRow.cfg N) N Tryd.f18 [.one, .one] [.rd, .v] [(false, .imm)] [⟨s28, .imm, x0⟩, ⟨(.int .i64), .imm, x1⟩] (fun r i => some (r, i)) = bindO (impl_Grid_sendRow N x0 x1) fun r => some ([⟨.str, .imm, r⟩], []) := by
  show _ = bindF _ _
  conv => rhs; simp only [impl_Grid_sendRow, bindF_ifB, bindF_bindO, bindF_pure, bindF_none, bindF_onSum, impl_Grid_sendRow.q5]
  kernel_rfl
theorem impl_Grid_sendRow.ok (N : Nat) : ConOk Tryd.prog 18 [.one, .one] (impl_Grid_sendRow.con N) := ok2 (g := impl_Grid_sendRow.cfg N) (N := N) (res := [(false, .imm)]) tys_ok (impl_Grid_sendRow.cons N) mixed Tryd.func18 (impl_Grid_sendRow.ls N) rfl (impl_Grid_sendRow.b N)
theorem impl_Grid_sendRow.det (N : Nat) : ConDet (impl_Grid_sendRow.con N) := det2
set_option maxHeartbeats 1000000 in
set_option maxRecDepth 100000 in
theorem strings_Builder_Len.run : BltRun Tryd.prog 19 45 5 1 := by
  intro m w b p ad cap xs hR I
  have mixed := mixed
  have c1 := I.c1
  unfold self
  go_enter Tryd.func19, Tryd.ntmps19
  go_wp2
  go_ret
  exact ⟨rfl, rfl⟩
def strings_Builder_Len.con (N : Nat) : Con := { modes := [], ptrs := [], bl := some (45, 5, 1), fn := fun _ _ => none }
theorem strings_Builder_Len.ok (N : Nat) : ConOk Tryd.prog 19 [.one] (strings_Builder_Len.con N) := ⟨fun h => (by cases h), fun b h => (by injection h with h; subst h; exact ⟨Tryd.zeroValue45, strings_Builder_Len.run⟩)⟩
theorem strings_Builder_Len.det (N : Nat) : ConDet (strings_Builder_Len.con N) := fun ds R k y h => by cases h
def impl_Send.sk5 : Skel := ⟨dd 2 (.ptr 50 [] :: (.ptr 51 [] :: (dd 1 (.ptr 52 [] :: (dd 26 (.pv (.int .i64) :: (.pv (.int .i64) :: (dd 50 [])))))))), [⟨50, s28, .imm, true, false⟩, ⟨51, s28, .imm, true, false⟩, ⟨52, (.pair (.sl 45 .unit) (.pair s35 .unit)), (.pr .imm (.pr (.own .imm) .imm)), true, false⟩]⟩
def impl_Send.xs5 : List XS := [⟨.exit 0, [2, 3, 5], ⟨dd 2 (.ptr 50 [] :: (.ptr 51 [] :: (dd 1 (.ptr 52 [] :: (dd 78 []))))), [⟨50, s28, .imm, true, false⟩, ⟨51, s28, .imm, true, false⟩, ⟨52, (.pair (.sl 45 .unit) (.pair s35 .unit)), (.pr .imm (.pr (.own .imm) .imm)), true, false⟩]⟩⟩]
def impl_Send.con (N : Nat) : Con := { modes := [.v, .v], ptrs := [false], fn := fn2 s28 .imm s28 .imm (impl_Send N) (fun r => [⟨.str, .imm, r⟩]) (fun r => []) }
def impl_Send.cfg (N : Nat) : Cfg := { ty := tys, keep := [10, 14, 55, 58, 59, 61, 81, 82, 83], flt := [], elm := elm0, live := [(5, [2, 3, 5, 32, 33])], ord := [(7, [0, 1, 2, 3, 4, 5, 6, 7, 8, 9, 10]), (8, [0, 1, 2, 3, 4, 5, 6, 7, 8, 9, 10, 11])], con := [((15, [.one]), impl_FlatRight.con N), ((16, [.one, .one]), impl_sameCells.con N), ((18, [.one, .one]), impl_Grid_sendRow.con N), ((17, [.one, .one]), strings_Builder_WriteString.con N), ((19, [.one]), strings_Builder_Len.con N), ((20, [.one, .one]), impl_goTo.con N), ((21, [.one]), strings_Builder_String.con N)], loops := [(5, loopCon N impl_Send.sk5 impl_Send.xs5 (fun {R} => impl_Send.l5 (R := R) N))], joins := [(10, [⟨.normal, [2, 3, 5, 32, 33], ⟨dd 2 (.ptr 50 [] :: (.ptr 51 [] :: (dd 1 (.ptr 52 [] :: (dd 26 (.pv (.int .i64) :: (.pv (.int .i64) :: (dd 50 [])))))))), [⟨50, s28, .imm, true, false⟩, ⟨51, s28, .imm, true, false⟩, ⟨52, (.pair (.sl 45 .unit) (.pair s35 .unit)), (.pr .imm (.pr (.own .imm) .imm)), true, false⟩]⟩⟩])] }
theorem impl_Send.cons (N : Nat) : ConsOk Tryd.prog (impl_Send.cfg N).con := (consOk_cons (hb15) (impl_FlatRight.ok N) (impl_FlatRight.det N) (consOk_cons (hb16) (impl_sameCells.ok N) (impl_sameCells.det N) (consOk_cons (hb18) (impl_Grid_sendRow.ok N) (impl_Grid_sendRow.det N) (consOk_cons (hb17) (strings_Builder_WriteString.ok N) (strings_Builder_WriteString.det N) (consOk_cons (hb19) (strings_Builder_Len.ok N) (strings_Builder_Len.det N) (consOk_cons (hb20) (impl_goTo.ok N) (impl_goTo.det N) (consOk_cons (hb21) (strings_Builder_String.ok N) (strings_Builder_String.det N) consOk_nil)))))))
theorem impl_Send.h5 {R : Type} (N : Nat) (d : impl_Send.sk5.D) (kn : impl_Send.sk5.D → Option R) (kx : XD impl_Send.xs5 → Option R) : roundK (impl_Send.cfg N) N (nthLoop (fnBody Tryd.f7) 0) impl_Send.sk5 impl_Send.xs5 d kn kx = impl_Send.l5 N d kn kx := by kernel_rfl
theorem impl_Send.i5 (N : Nat) : LoopsOk Tryd.prog (impl_Send.cfg N) (nthLoop (fnBody Tryd.f7) 0) := loopsL (l := []) (by kernel_rfl) trivial
theorem impl_Send.o5 (N : Nat) : LoopOk Tryd.prog (nthLoop (fnBody Tryd.f7) 0) (loopCon N impl_Send.sk5 impl_Send.xs5 (fun {R} => impl_Send.l5 (R := R) N)) := loop_ok (g := impl_Send.cfg N) tys_ok (impl_Send.cons N) mixed (impl_Send.i5 N) (fun d kn kx => impl_Send.h5 N d kn kx)
theorem impl_Send.ls (N : Nat) : LoopsOk Tryd.prog (impl_Send.cfg N) (fnBody Tryd.f7) := loopsL (l := [nthLoop (fnBody Tryd.f7) 0]) (by kernel_rfl) ⟨loopOne (L0 := loopCon N impl_Send.sk5 impl_Send.xs5 (fun {R} => impl_Send.l5 (R := R) N)) (id := 5) (by kernel_rfl) (by kernel_rfl) (impl_Send.o5 N), trivial⟩
theorem impl_Send.q5 {R R' : Type} {N n : Nat} {d} {k} {g : R → Option R'} : bindF (loopP (impl_Send.l5 N) n d k) g = loopP (impl_Send.l5 N) n d fun e => bindF (k e) g := bindF_loopP (fun d kn kx => by simp only [impl_Send.l5, bindF_ifB, bindF_bindO, bindF_pure, bindF_none, bindF_onSum]) n d k
theorem impl_Send.b (N : Nat) (x0 : den s28) (x1 : den s28) : body (impl_Send.cfg N) N Tryd.f7 [.one, .one] [.v, .v] [(false, .imm)] [⟨s28, .imm, x0⟩, ⟨s28, .imm, x1⟩] (fun r i => some (r, i)) = bindO (impl_Send N x0 x1) fun r => some ([⟨.str, .imm, r⟩], []) := by
  show _ = bindF _ _
  conv => rhs; simp only [impl_Send, bindF_ifB, bindF_bindO, bindF_pure, bindF_none, bindF_onSum, impl_Send.q5]
  kernel_rfl
theorem impl_Send.ok (N : Nat) : ConOk Tryd.prog 7 [.one, .one] (impl_Send.con N) := ok2 (g := impl_Send.cfg N) (N := N) (res := [(false, .imm)]) tys_ok (impl_Send.cons N) mixed Tryd.func7 (impl_Send.ls N) rfl (impl_Send.b N)
theorem impl_Send.det (N : Nat) : ConDet (impl_Send.con N) := det2
def laws_eqInt64S.sk4 : Skel := ⟨.pv s36 :: (.pv s36 :: (dd 3 (.pv (.int .i64) :: (dd 20 [])))), []⟩
def laws_eqInt64S.xs4 : List XS := [⟨.exit 0, [], ⟨dd 26 [], []⟩⟩, ⟨.ret, [4], ⟨dd 4 (.pv .bool :: (dd 21 [])), []⟩⟩]
def laws_eqInt64S.con (N : Nat) : Con := { modes := [.v, .v], ptrs := [false], fn := fn2 s36 .imm s36 .imm (laws_eqInt64S N) (fun r => [⟨.bool, .imm, r⟩]) (fun r => []) }
def laws_eqInt64S.cfg (N : Nat) : Cfg := { ty := tys, keep := [], flt := [], elm := elm0, live := [(4, [0, 1, 5])], ord := [(6, [0, 1, 2, 3, 4, 5, 6, 7, 8])], con := [], loops := [(4, loopCon N laws_eqInt64S.sk4 laws_eqInt64S.xs4 (fun {R} => laws_eqInt64S.l4 (R := R) N))], joins := [] }
theorem laws_eqInt64S.cons (N : Nat) : ConsOk Tryd.prog (laws_eqInt64S.cfg N).con := consOk_nil
theorem laws_eqInt64S.h4 {R : Type} (N : Nat) (d : laws_eqInt64S.sk4.D) (kn : laws_eqInt64S.sk4.D → Option R) (kx : XD laws_eqInt64S.xs4 → Option R) : roundK (laws_eqInt64S.cfg N) N (nthLoop (fnBody Tryd.f53) 0) laws_eqInt64S.sk4 laws_eqInt64S.xs4 d kn kx = laws_eqInt64S.l4 N d kn kx := by kernel_rfl
theorem laws_eqInt64S.i4 (N : Nat) : LoopsOk Tryd.prog (laws_eqInt64S.cfg N) (nthLoop (fnBody Tryd.f53) 0) := loopsL (l := []) (by kernel_rfl) trivial
theorem laws_eqInt64S.o4 (N : Nat) : LoopOk Tryd.prog (nthLoop (fnBody Tryd.f53) 0) (loopCon N laws_eqInt64S.sk4 laws_eqInt64S.xs4 (fun {R} => laws_eqInt64S.l4 (R := R) N)) := loop_ok (g := laws_eqInt64S.cfg N) tys_ok (laws_eqInt64S.cons N) mixed (laws_eqInt64S.i4 N) (fun d kn kx => laws_eqInt64S.h4 N d kn kx)
theorem laws_eqInt64S.ls (N : Nat) : LoopsOk Tryd.prog (laws_eqInt64S.cfg N) (fnBody Tryd.f53) := loopsL (l := [nthLoop (fnBody Tryd.f53) 0]) (by kernel_rfl) ⟨loopOne (L0 := loopCon N laws_eqInt64S.sk4 laws_eqInt64S.xs4 (fun {R} => laws_eqInt64S.l4 (R := R) N)) (id := 4) (by kernel_rfl) (by kernel_rfl) (laws_eqInt64S.o4 N), trivial⟩
theorem laws_eqInt64S.q4 {R R' : Type} {N n : Nat} {d} {k} {g : R → Option R'} : bindF (loopP (laws_eqInt64S.l4 N) n d k) g = loopP (laws_eqInt64S.l4 N) n d fun e => bindF (k e) g := bindF_loopP (fun d kn kx => by simp only [laws_eqInt64S.l4, bindF_ifB, bindF_bindO, bindF_pure, bindF_none, bindF_onSum]) n d k
theorem laws_eqInt64S.b (N : Nat) (x0 : den s36) (x1 : den s36) : body (laws_eqInt64S.cfg N) N Tryd.f53 [.one, .one] [.v, .v] [(false, .imm)] [⟨s36, .imm, x0⟩, ⟨s36, .imm, x1⟩] (fun r i => some (r, i)) = bindO (laws_eqInt64S N x0 x1) fun r => some ([⟨.bool, .imm, r⟩], []) := by
  show _ = bindF _ _
  conv => rhs; simp only [laws_eqInt64S, bindF_ifB, bindF_bindO, bindF_pure, bindF_none, bindF_onSum, laws_eqInt64S.q4]
  kernel_rfl
theorem laws_eqInt64S.ok (N : Nat) : ConOk Tryd.prog 53 [.one, .one] (laws_eqInt64S.con N) := ok2 (g := laws_eqInt64S.cfg N) (N := N) (res := [(false, .imm)]) tys_ok (laws_eqInt64S.cons N) mixed Tryd.func53 (laws_eqInt64S.ls N) rfl (laws_eqInt64S.b N)
theorem laws_eqInt64S.det (N : Nat) : ConDet (laws_eqInt64S.con N) := det2
def laws_eqCell.con (N : Nat) : Con := { modes := [.v, .v], ptrs := [false], fn := fn2 s37 .imm s37 .imm (laws_eqCell N) (fun r => [⟨.bool, .imm, r⟩]) (fun r => []) }
def laws_eqCell.cfg (N : Nat) : Cfg := { ty := tys, keep := [9], flt := [], elm := elm0, live := [], ord := [], con := [((53, [.one, .one]), laws_eqInt64S.con N)], loops := [], joins := [] }
theorem laws_eqCell.cons (N : Nat) : ConsOk Tryd.prog (laws_eqCell.cfg N).con := (consOk_cons (hb53) (laws_eqInt64S.ok N) (laws_eqInt64S.det N) consOk_nil)
theorem laws_eqCell.ls (N : Nat) : LoopsOk Tryd.prog (laws_eqCell.cfg N) (fnBody Tryd.f38) := loopsL (l := []) (by kernel_rfl) trivial
theorem laws_eqCell.b (N : Nat) (x0 : den s37) (x1 : den s37) : body (laws_eqCell.cfg N) N Tryd.f38 [.one, .one] [.v, .v] [(false, .imm)] [⟨s37, .imm, x0⟩, ⟨s37, .imm, x1⟩] (fun r i => some (r, i)) = bindO (laws_eqCell N x0 x1) fun r => some ([⟨.bool, .imm, r⟩], []) := by
  show _ = bindF _ _
  conv => rhs; simp only [laws_eqCell, bindF_ifB, bindF_bindO, bindF_pure, bindF_none, bindF_onSum]
  kernel_rfl
theorem laws_eqCell.ok (N : Nat) : ConOk Tryd.prog 38 [.one, .one] (laws_eqCell.con N) := ok2 (g := laws_eqCell.cfg N) (N := N) (res := [(false, .imm)]) tys_ok (laws_eqCell.cons N) mixed Tryd.func38 (laws_eqCell.ls N) rfl (laws_eqCell.b N)
theorem laws_eqCell.det (N : Nat) : ConDet (laws_eqCell.con N) := det2
def laws_eqCellS.sk4 : Skel := ⟨.pv s27 :: (.pv s27 :: (dd 3 (.pv (.int .i64) :: (dd 21 [])))), []⟩
def laws_eqCellS.xs4 : List XS := [⟨.exit 0, [], ⟨dd 27 [], []⟩⟩, ⟨.ret, [4], ⟨dd 4 (.pv .bool :: (dd 22 [])), []⟩⟩]
def laws_eqCellS.con (N : Nat) : Con := { modes := [.v, .v], ptrs := [false], fn := fn2 s27 .imm s27 .imm (laws_eqCellS N) (fun r => [⟨.bool, .imm, r⟩]) (fun r => []) }
def laws_eqCellS.cfg (N : Nat) : Cfg := { ty := tys, keep := [25], flt := [], elm := elm0, live := [(4, [0, 1, 5])], ord := [(6, [0, 1, 2, 3, 4, 5, 6, 7, 8, 9])], con := [((38, [.one, .one]), laws_eqCell.con N)], loops := [(4, loopCon N laws_eqCellS.sk4 laws_eqCellS.xs4 (fun {R} => laws_eqCellS.l4 (R := R) N))], joins := [] }
theorem laws_eqCellS.cons (N : Nat) : ConsOk Tryd.prog (laws_eqCellS.cfg N).con := (consOk_cons (hb38) (laws_eqCell.ok N) (laws_eqCell.det N) consOk_nil)
theorem laws_eqCellS.h4 {R : Type} (N : Nat) (d : laws_eqCellS.sk4.D) (kn : laws_eqCellS.sk4.D → Option R) (kx : XD laws_eqCellS.xs4 → Option R) : roundK (laws_eqCellS.cfg N) N (nthLoop (fnBody Tryd.f22) 0) laws_eqCellS.sk4 laws_eqCellS.xs4 d kn kx = laws_eqCellS.l4 N d kn kx := by kernel_rfl
theorem laws_eqCellS.i4 (N : Nat) : LoopsOk Tryd.prog (laws_eqCellS.cfg N) (nthLoop (fnBody Tryd.f22) 0) := loopsL (l := []) (by kernel_rfl) trivial
theorem laws_eqCellS.o4 (N : Nat) : LoopOk Tryd.prog (nthLoop (fnBody Tryd.f22) 0) (loopCon N laws_eqCellS.sk4 laws_eqCellS.xs4 (fun {R} => laws_eqCellS.l4 (R := R) N)) := loop_ok (g := laws_eqCellS.cfg N) tys_ok (laws_eqCellS.cons N) mixed (laws_eqCellS.i4 N) (fun d kn kx => laws_eqCellS.h4 N d kn kx)
theorem laws_eqCellS.ls (N : Nat) : LoopsOk Tryd.prog (laws_eqCellS.cfg N) (fnBody Tryd.f22) := loopsL (l := [nthLoop (fnBody Tryd.f22) 0]) (by kernel_rfl) ⟨loopOne (L0 := loopCon N laws_eqCellS.sk4 laws_eqCellS.xs4 (fun {R} => laws_eqCellS.l4 (R := R) N)) (id := 4) (by kernel_rfl) (by kernel_rfl) (laws_eqCellS.o4 N), trivial⟩
theorem laws_eqCellS.q4 {R R' : Type} {N n : Nat} {d} {k} {g : R → Option R'} : bindF (loopP (laws_eqCellS.l4 N) n d k) g = loopP (laws_eqCellS.l4 N) n d fun e => bindF (k e) g := bindF_loopP (fun d kn kx => by simp only [laws_eqCellS.l4, bindF_ifB, bindF_bindO, bindF_pure, bindF_none, bindF_onSum]) n d k
theorem laws_eqCellS.b (N : Nat) (x0 : den s27) (x1 : den s27) : body (laws_eqCellS.cfg N) N Tryd.f22 [.one, .one] [.v, .v] [(false, .imm)] [⟨s27, .imm, x0⟩, ⟨s27, .imm, x1⟩] (fun r i => some (r, i)) = bindO (laws_eqCellS N x0 x1) fun r => some ([⟨.bool, .imm, r⟩], []) := by
  show _ = bindF _ _
  conv => rhs; simp only [laws_eqCellS, bindF_ifB, bindF_bindO, bindF_pure, bindF_none, bindF_onSum, laws_eqCellS.q4]
  kernel_rfl
theorem laws_eqCellS.ok (N : Nat) : ConOk Tryd.prog 22 [.one, .one] (laws_eqCellS.con N) := ok2 (g := laws_eqCellS.cfg N) (N := N) (res := [(false, .imm)]) tys_ok (laws_eqCellS.cons N) mixed Tryd.func22 (laws_eqCellS.ls N) rfl (laws_eqCellS.b N)
theorem laws_eqCellS.det (N : Nat) : ConDet (laws_eqCellS.con N) := det2
def laws_eqGrid.con (N : Nat) : Con := { modes := [.v, .v], ptrs := [false], fn := fn2 s28 .imm s28 .imm (laws_eqGrid N) (fun r => [⟨.bool, .imm, r⟩]) (fun r => []) }
def laws_eqGrid.cfg (N : Nat) : Cfg := { ty := tys, keep := [19], flt := [], elm := elm0, live := [], ord := [], con := [((22, [.one, .one]), laws_eqCellS.con N)], loops := [], joins := [] }
theorem laws_eqGrid.cons (N : Nat) : ConsOk Tryd.prog (laws_eqGrid.cfg N).con := (consOk_cons (hb22) (laws_eqCellS.ok N) (laws_eqCellS.det N) consOk_nil)
theorem laws_eqGrid.ls (N : Nat) : LoopsOk Tryd.prog (laws_eqGrid.cfg N) (fnBody Tryd.f8) := loopsL (l := []) (by kernel_rfl) trivial
theorem laws_eqGrid.b (N : Nat) (x0 : den s28) (x1 : den s28) : body (laws_eqGrid.cfg N) N Tryd.f8 [.one, .one] [.v, .v] [(false, .imm)] [⟨s28, .imm, x0⟩, ⟨s28, .imm, x1⟩] (fun r i => some (r, i)) = bindO (laws_eqGrid N x0 x1) fun r => some ([⟨.bool, .imm, r⟩], []) := by
  show _ = bindF _ _
  conv => rhs; simp only [laws_eqGrid, bindF_ifB, bindF_bindO, bindF_pure, bindF_none, bindF_onSum]
  kernel_rfl
theorem laws_eqGrid.ok (N : Nat) : ConOk Tryd.prog 8 [.one, .one] (laws_eqGrid.con N) := ok2 (g := laws_eqGrid.cfg N) (N := N) (res := [(false, .imm)]) tys_ok (laws_eqGrid.cons N) mixed Tryd.func8 (laws_eqGrid.ls N) rfl (laws_eqGrid.b N)
theorem laws_eqGrid.det (N : Nat) : ConDet (laws_eqGrid.con N) := det2
def laws_FnExactSend.con (N : Nat) : Con := { modes := [.v, .v], ptrs := [false], fn := fn2 s23 .imm s23 .imm (laws_FnExactSend N) (fun r => [⟨.bool, .imm, r⟩]) (fun r => []) }
def laws_FnExactSend.cfg (N : Nat) : Cfg := { ty := tys, keep := [12, 17, 21, 23, 24, 26, 28, 31, 37, 38, 42, 43], flt := [], elm := elm0, live := [], ord := [(8, [0, 2, 1, 3, 4, 5]), (14, [0, 1, 2, 3, 4]), (16, [0, 1, 2, 3, 4])], con := [((4, [.one, .one]), laws_szGrid.con N), ((6, [.one]), laws_toGrid.con N), ((5, [.one, .one]), spec_Send.con N), ((7, [.one, .one]), impl_Send.con N), ((8, [.one, .one]), laws_eqGrid.con N)], loops := [], joins := [] }
theorem laws_FnExactSend.cons (N : Nat) : ConsOk Tryd.prog (laws_FnExactSend.cfg N).con := (consOk_cons (hb4) (laws_szGrid.ok N) (laws_szGrid.det N) (consOk_cons (hb6) (laws_toGrid.ok N) (laws_toGrid.det N) (consOk_cons (hb5) (spec_Send.ok N) (spec_Send.det N) (consOk_cons (hb7) (impl_Send.ok N) (impl_Send.det N) (consOk_cons (hb8) (laws_eqGrid.ok N) (laws_eqGrid.det N) consOk_nil)))))
theorem laws_FnExactSend.ls (N : Nat) : LoopsOk Tryd.prog (laws_FnExactSend.cfg N) (fnBody Tryd.f3) := loopsL (l := []) (by kernel_rfl) trivial
theorem laws_FnExactSend.b (N : Nat) (x0 : den s23) (x1 : den s23) : body (laws_FnExactSend.cfg N) N Tryd.f3 [.one, .one] [.v, .v] [(false, .imm)] [⟨s23, .imm, x0⟩, ⟨s23, .imm, x1⟩] (fun r i => some (r, i)) = bindO (laws_FnExactSend N x0 x1) fun r => some ([⟨.bool, .imm, r⟩], []) := by
  show _ = bindF _ _
  conv => rhs; simp only [laws_FnExactSend, bindF_ifB, bindF_bindO, bindF_pure, bindF_none, bindF_onSum]
  kernel_rfl
theorem laws_FnExactSend.ok (N : Nat) : ConOk Tryd.prog 3 [.one, .one] (laws_FnExactSend.con N) := ok2 (g := laws_FnExactSend.cfg N) (N := N) (res := [(false, .imm)]) tys_ok (laws_FnExactSend.cons N) mixed Tryd.func3 (laws_FnExactSend.ls N) rfl (laws_FnExactSend.b N)
theorem laws_FnExactSend.det (N : Nat) : ConDet (laws_FnExactSend.con N) := det2
end Go.AE.F
end
