/- The printed functions are what the program comes to: contracts. -/
import Derived.Test.YteoociojgeokmaaDoorXSendF4
import Derived.Test.YteoociojgeokmaaDoorXSendT
noncomputable section
namespace Go.AE.F
open Go.AE Go.Proofs
set_option maxRecDepth 100000
def laws_szInt64S.con (N : Nat) : Con := { modes := [.v, .v], ptrs := [false], fn := fn2 s36 .imm (.int .i64) .imm (laws_szInt64S N) (fun r => [⟨(.int .i64), .imm, r⟩]) (fun r => []) }
def laws_szInt64S.cfg (N : Nat) : Cfg := { ty := tys, keep := [], flt := [], elm := elm0, live := [], ord := [], con := [], loops := [], joins := [] }
theorem laws_szInt64S.cons (N : Nat) : ConsOk Tryd.prog (laws_szInt64S.cfg N).con := consOk_nil
theorem laws_szInt64S.ls (N : Nat) : LoopsOk Tryd.prog (laws_szInt64S.cfg N) (fnBody Tryd.f39) := loopsL (l := []) (by kernel_rfl) trivial
theorem laws_szInt64S.b (N : Nat) (x0 : den s36) (x1 : den (.int .i64)) : body (laws_szInt64S.cfg N) N Tryd.f39 [.one, .one] [.v, .v] [(false, .imm)] [⟨s36, .imm, x0⟩, ⟨(.int .i64), .imm, x1⟩] (fun r i => some (r, i)) = bindO (laws_szInt64S N x0 x1) fun r => some ([⟨(.int .i64), .imm, r⟩], []) := by
  show _ = bindF _ _
  conv => rhs; simp only [laws_szInt64S, bindF_ifB, bindF_bindO, bindF_pure, bindF_none, bindF_onSum]
  kernel_rfl
theorem laws_szInt64S.ok (N : Nat) : ConOk Tryd.prog 39 [.one, .one] (laws_szInt64S.con N) := ok2 (g := laws_szInt64S.cfg N) (N := N) (res := [(false, .imm)]) tys_ok (laws_szInt64S.cons N) mixed Tryd.func39 (laws_szInt64S.ls N) rfl (laws_szInt64S.b N)
theorem laws_szInt64S.det (N : Nat) : ConDet (laws_szInt64S.con N) := det2
def laws_szCell.con (N : Nat) : Con := { modes := [.v, .v], ptrs := [false], fn := fn2 s37 .imm (.int .i64) .imm (laws_szCell N) (fun r => [⟨(.int .i64), .imm, r⟩]) (fun r => []) }
def laws_szCell.cfg (N : Nat) : Cfg := { ty := tys, keep := [8], flt := [], elm := elm0, live := [], ord := [], con := [((39, [.one, .one]), laws_szInt64S.con N)], loops := [], joins := [] }
theorem laws_szCell.cons (N : Nat) : ConsOk Tryd.prog (laws_szCell.cfg N).con := (consOk_cons (hb39) (laws_szInt64S.ok N) (laws_szInt64S.det N) consOk_nil)
theorem laws_szCell.ls (N : Nat) : LoopsOk Tryd.prog (laws_szCell.cfg N) (fnBody Tryd.f23) := loopsL (l := []) (by kernel_rfl) trivial
theorem laws_szCell.b (N : Nat) (x0 : den s37) (x1 : den (.int .i64)) : body (laws_szCell.cfg N) N Tryd.f23 [.one, .one] [.v, .v] [(false, .imm)] [⟨s37, .imm, x0⟩, ⟨(.int .i64), .imm, x1⟩] (fun r i => some (r, i)) = bindO (laws_szCell N x0 x1) fun r => some ([⟨(.int .i64), .imm, r⟩], []) := by
  show _ = bindF _ _
  conv => rhs; simp only [laws_szCell, bindF_ifB, bindF_bindO, bindF_pure, bindF_none, bindF_onSum]
  kernel_rfl
theorem laws_szCell.ok (N : Nat) : ConOk Tryd.prog 23 [.one, .one] (laws_szCell.con N) := ok2 (g := laws_szCell.cfg N) (N := N) (res := [(false, .imm)]) tys_ok (laws_szCell.cons N) mixed Tryd.func23 (laws_szCell.ls N) rfl (laws_szCell.b N)
theorem laws_szCell.det (N : Nat) : ConDet (laws_szCell.con N) := det2
def laws_szCellS.sk5 : Skel := ⟨.pv s22 :: (.pv (.int .i64) :: (dd 3 (.pv (.int .i64) :: (dd 21 [])))), []⟩
def laws_szCellS.xs5 : List XS := [⟨.exit 0, [1], ⟨dd 1 (.pv (.int .i64) :: (dd 25 [])), []⟩⟩, ⟨.ret, [4], ⟨dd 4 (.pv (.int .i64) :: (dd 22 [])), []⟩⟩]
def laws_szCellS.con (N : Nat) : Con := { modes := [.v, .v], ptrs := [false], fn := fn2 s22 .imm (.int .i64) .imm (laws_szCellS N) (fun r => [⟨(.int .i64), .imm, r⟩]) (fun r => []) }
def laws_szCellS.cfg (N : Nat) : Cfg := { ty := tys, keep := [23], flt := [], elm := elm0, live := [(5, [0, 1, 5])], ord := [], con := [((23, [.one, .one]), laws_szCell.con N)], loops := [(5, loopCon N laws_szCellS.sk5 laws_szCellS.xs5 (fun {R} => laws_szCellS.l5 (R := R) N))], joins := [] }
theorem laws_szCellS.cons (N : Nat) : ConsOk Tryd.prog (laws_szCellS.cfg N).con := (consOk_cons (hb23) (laws_szCell.ok N) (laws_szCell.det N) consOk_nil)
theorem laws_szCellS.h5 {R : Type} (N : Nat) (d : laws_szCellS.sk5.D) (kn : laws_szCellS.sk5.D → Option R) (kx : XD laws_szCellS.xs5 → Option R) : roundK (laws_szCellS.cfg N) N (nthLoop (fnBody Tryd.f9) 0) laws_szCellS.sk5 laws_szCellS.xs5 d kn kx = laws_szCellS.l5 N d kn kx := by kernel_rfl
theorem laws_szCellS.i5 (N : Nat) : LoopsOk Tryd.prog (laws_szCellS.cfg N) (nthLoop (fnBody Tryd.f9) 0) := loopsL (l := []) (by kernel_rfl) trivial
theorem laws_szCellS.o5 (N : Nat) : LoopOk Tryd.prog (nthLoop (fnBody Tryd.f9) 0) (loopCon N laws_szCellS.sk5 laws_szCellS.xs5 (fun {R} => laws_szCellS.l5 (R := R) N)) := loop_ok (g := laws_szCellS.cfg N) tys_ok (laws_szCellS.cons N) mixed (laws_szCellS.i5 N) (fun d kn kx => laws_szCellS.h5 N d kn kx)
theorem laws_szCellS.ls (N : Nat) : LoopsOk Tryd.prog (laws_szCellS.cfg N) (fnBody Tryd.f9) := loopsL (l := [nthLoop (fnBody Tryd.f9) 0]) (by kernel_rfl) ⟨loopOne (L0 := loopCon N laws_szCellS.sk5 laws_szCellS.xs5 (fun {R} => laws_szCellS.l5 (R := R) N)) (id := 5) (by kernel_rfl) (by kernel_rfl) (laws_szCellS.o5 N), trivial⟩
theorem laws_szCellS.q5 {R R' : Type} {N n : Nat} {d} {k} {g : R → Option R'} : bindF (loopP (laws_szCellS.l5 N) n d k) g = loopP (laws_szCellS.l5 N) n d fun e => bindF (k e) g := bindF_loopP (fun d kn kx => by simp only [laws_szCellS.l5, bindF_ifB, bindF_bindO, bindF_pure, bindF_none, bindF_onSum]) n d k
theorem laws_szCellS.b (N : Nat) (x0 : den s22) (x1 : den (.int .i64)) : body (laws_szCellS.cfg N) N Tryd.f9 [.one, .one] [.v, .v] [(false, .imm)] [⟨s22, .imm, x0⟩, ⟨(.int .i64), .imm, x1⟩] (fun r i => some (r, i)) = bindO (laws_szCellS N x0 x1) fun r => some ([⟨(.int .i64), .imm, r⟩], []) := by
  show _ = bindF _ _
  conv => rhs; simp only [laws_szCellS, bindF_ifB, bindF_bindO, bindF_pure, bindF_none, bindF_onSum, laws_szCellS.q5]
  kernel_rfl
theorem laws_szCellS.ok (N : Nat) : ConOk Tryd.prog 9 [.one, .one] (laws_szCellS.con N) := ok2 (g := laws_szCellS.cfg N) (N := N) (res := [(false, .imm)]) tys_ok (laws_szCellS.cons N) mixed Tryd.func9 (laws_szCellS.ls N) rfl (laws_szCellS.b N)
theorem laws_szCellS.det (N : Nat) : ConDet (laws_szCellS.con N) := det2
def laws_szGrid.con (N : Nat) : Con := { modes := [.v, .v], ptrs := [false], fn := fn2 s23 .imm (.int .i64) .imm (laws_szGrid N) (fun r => [⟨(.int .i64), .imm, r⟩]) (fun r => []) }
def laws_szGrid.cfg (N : Nat) : Cfg := { ty := tys, keep := [8], flt := [], elm := elm0, live := [], ord := [], con := [((9, [.one, .one]), laws_szCellS.con N)], loops := [], joins := [] }
theorem laws_szGrid.cons (N : Nat) : ConsOk Tryd.prog (laws_szGrid.cfg N).con := (consOk_cons (hb9) (laws_szCellS.ok N) (laws_szCellS.det N) consOk_nil)
theorem laws_szGrid.ls (N : Nat) : LoopsOk Tryd.prog (laws_szGrid.cfg N) (fnBody Tryd.f4) := loopsL (l := []) (by kernel_rfl) trivial
theorem laws_szGrid.b (N : Nat) (x0 : den s23) (x1 : den (.int .i64)) : body (laws_szGrid.cfg N) N Tryd.f4 [.one, .one] [.v, .v] [(false, .imm)] [⟨s23, .imm, x0⟩, ⟨(.int .i64), .imm, x1⟩] (fun r i => some (r, i)) = bindO (laws_szGrid N x0 x1) fun r => some ([⟨(.int .i64), .imm, r⟩], []) := by
  show _ = bindF _ _
  conv => rhs; simp only [laws_szGrid, bindF_ifB, bindF_bindO, bindF_pure, bindF_none, bindF_onSum]
  kernel_rfl
theorem laws_szGrid.ok (N : Nat) : ConOk Tryd.prog 4 [.one, .one] (laws_szGrid.con N) := ok2 (g := laws_szGrid.cfg N) (N := N) (res := [(false, .imm)]) tys_ok (laws_szGrid.cons N) mixed Tryd.func4 (laws_szGrid.ls N) rfl (laws_szGrid.b N)
theorem laws_szGrid.det (N : Nat) : ConDet (laws_szGrid.con N) := det2
def laws_toInt64S.sk3 : Skel := ⟨.pv s36 :: (dd 2 (.ov 50 [] :: (.pv (.int .i64) :: (dd 17 [])))), [⟨50, s36, (.own .imm), false, false⟩]⟩
def laws_toInt64S.xs3 : List XS := [⟨.exit 0, [3], ⟨dd 3 (.ov 50 [] :: (dd 18 [])), [⟨50, s36, (.own .imm), false, false⟩]⟩⟩]
def laws_toInt64S.con (N : Nat) : Con := { modes := [.v], ptrs := [false], fn := fn1 s36 .imm (laws_toInt64S N) (fun r => [⟨s36, (.own .imm), r⟩]) (fun r => []) }
def laws_toInt64S.cfg (N : Nat) : Cfg := { ty := tys, keep := [], flt := [], elm := elm0, live := [(3, [0, 3, 4])], ord := [], con := [], loops := [(3, loopCon N laws_toInt64S.sk3 laws_toInt64S.xs3 (fun {R} => laws_toInt64S.l3 (R := R) N))], joins := [] }
theorem laws_toInt64S.cons (N : Nat) : ConsOk Tryd.prog (laws_toInt64S.cfg N).con := consOk_nil
theorem laws_toInt64S.h3 {R : Type} (N : Nat) (d : laws_toInt64S.sk3.D) (kn : laws_toInt64S.sk3.D → Option R) (kx : XD laws_toInt64S.xs3 → Option R) : roundK (laws_toInt64S.cfg N) N (nthLoop (fnBody Tryd.f44) 0) laws_toInt64S.sk3 laws_toInt64S.xs3 d kn kx = laws_toInt64S.l3 N d kn kx := by kernel_rfl
theorem laws_toInt64S.i3 (N : Nat) : LoopsOk Tryd.prog (laws_toInt64S.cfg N) (nthLoop (fnBody Tryd.f44) 0) := loopsL (l := []) (by kernel_rfl) trivial
theorem laws_toInt64S.o3 (N : Nat) : LoopOk Tryd.prog (nthLoop (fnBody Tryd.f44) 0) (loopCon N laws_toInt64S.sk3 laws_toInt64S.xs3 (fun {R} => laws_toInt64S.l3 (R := R) N)) := loop_ok (g := laws_toInt64S.cfg N) tys_ok (laws_toInt64S.cons N) mixed (laws_toInt64S.i3 N) (fun d kn kx => laws_toInt64S.h3 N d kn kx)
theorem laws_toInt64S.ls (N : Nat) : LoopsOk Tryd.prog (laws_toInt64S.cfg N) (fnBody Tryd.f44) := loopsL (l := [nthLoop (fnBody Tryd.f44) 0]) (by kernel_rfl) ⟨loopOne (L0 := loopCon N laws_toInt64S.sk3 laws_toInt64S.xs3 (fun {R} => laws_toInt64S.l3 (R := R) N)) (id := 3) (by kernel_rfl) (by kernel_rfl) (laws_toInt64S.o3 N), trivial⟩
theorem laws_toInt64S.q3 {R R' : Type} {N n : Nat} {d} {k} {g : R → Option R'} : bindF (loopP (laws_toInt64S.l3 N) n d k) g = loopP (laws_toInt64S.l3 N) n d fun e => bindF (k e) g := bindF_loopP (fun d kn kx => by simp only [laws_toInt64S.l3, bindF_ifB, bindF_bindO, bindF_pure, bindF_none, bindF_onSum]) n d k
theorem laws_toInt64S.b (N : Nat) (x0 : den s36) : body (laws_toInt64S.cfg N) N Tryd.f44 [.one] [.v] [(false, (.own .imm))] [⟨s36, .imm, x0⟩] (fun r i => some (r, i)) = bindO (laws_toInt64S N x0) fun r => some ([⟨s36, (.own .imm), r⟩], []) := by
  show _ = bindF _ _
  conv => rhs; simp only [laws_toInt64S, bindF_ifB, bindF_bindO, bindF_pure, bindF_none, bindF_onSum, laws_toInt64S.q3]
  kernel_rfl
theorem laws_toInt64S.ok (N : Nat) : ConOk Tryd.prog 44 [.one] (laws_toInt64S.con N) := ok1 (g := laws_toInt64S.cfg N) (N := N) (res := [(false, (.own .imm))]) tys_ok (laws_toInt64S.cons N) mixed Tryd.func44 (laws_toInt64S.ls N) rfl (laws_toInt64S.b N)
theorem laws_toInt64S.det (N : Nat) : ConDet (laws_toInt64S.con N) := det1
def laws_toCell.con (N : Nat) : Con := { modes := [.v], ptrs := [false], fn := fn1 s37 .imm (laws_toCell N) (fun r => [⟨s37, (.pr (.own .imm) .imm), r⟩]) (fun r => []) }
def laws_toCell.cfg (N : Nat) : Cfg := { ty := tys, keep := [6], flt := [], elm := elm0, live := [], ord := [], con := [((44, [.one]), laws_toInt64S.con N)], loops := [], joins := [] }
theorem laws_toCell.cons (N : Nat) : ConsOk Tryd.prog (laws_toCell.cfg N).con := (consOk_cons (hb44) (laws_toInt64S.ok N) (laws_toInt64S.det N) consOk_nil)
theorem laws_toCell.ls (N : Nat) : LoopsOk Tryd.prog (laws_toCell.cfg N) (fnBody Tryd.f27) := loopsL (l := []) (by kernel_rfl) trivial
theorem laws_toCell.b (N : Nat) (x0 : den s37) : body (laws_toCell.cfg N) N Tryd.f27 [.one] [.v] [(false, (.pr (.own .imm) .imm))] [⟨s37, .imm, x0⟩] (fun r i => some (r, i)) = bindO (laws_toCell N x0) fun r => some ([⟨s37, (.pr (.own .imm) .imm), r⟩], []) := by
  show _ = bindF _ _
  conv => rhs; simp only [laws_toCell, bindF_ifB, bindF_bindO, bindF_pure, bindF_none, bindF_onSum]
  kernel_rfl
theorem laws_toCell.ok (N : Nat) : ConOk Tryd.prog 27 [.one] (laws_toCell.con N) := ok1 (g := laws_toCell.cfg N) (N := N) (res := [(false, (.pr (.own .imm) .imm))]) tys_ok (laws_toCell.cons N) mixed Tryd.func27 (laws_toCell.ls N) rfl (laws_toCell.b N)
theorem laws_toCell.det (N : Nat) : ConDet (laws_toCell.con N) := det1
def laws_toCellS.sk3 : Skel := ⟨.pv s22 :: (dd 2 (.ov 50 [] :: (.pv (.int .i64) :: (dd 18 [])))), [⟨50, s27, (.own (.pr (.own .imm) .imm)), false, false⟩]⟩
def laws_toCellS.xs3 : List XS := [⟨.exit 0, [3], ⟨dd 3 (.ov 50 [] :: (dd 19 [])), [⟨50, s27, (.own (.pr (.own .imm) .imm)), false, false⟩]⟩⟩]
def laws_toCellS.con (N : Nat) : Con := { modes := [.v], ptrs := [false], fn := fn1 s22 .imm (laws_toCellS N) (fun r => [⟨s27, (.own (.pr (.own .imm) .imm)), r⟩]) (fun r => []) }
def laws_toCellS.cfg (N : Nat) : Cfg := { ty := tys, keep := [20], flt := [], elm := elm0, live := [(3, [0, 3, 4])], ord := [], con := [((27, [.one]), laws_toCell.con N)], loops := [(3, loopCon N laws_toCellS.sk3 laws_toCellS.xs3 (fun {R} => laws_toCellS.l3 (R := R) N))], joins := [] }
theorem laws_toCellS.cons (N : Nat) : ConsOk Tryd.prog (laws_toCellS.cfg N).con := (consOk_cons (hb27) (laws_toCell.ok N) (laws_toCell.det N) consOk_nil)
theorem laws_toCellS.h3 {R : Type} (N : Nat) (d : laws_toCellS.sk3.D) (kn : laws_toCellS.sk3.D → Option R) (kx : XD laws_toCellS.xs3 → Option R) : roundK (laws_toCellS.cfg N) N (nthLoop (fnBody Tryd.f14) 0) laws_toCellS.sk3 laws_toCellS.xs3 d kn kx = laws_toCellS.l3 N d kn kx := by kernel_rfl
theorem laws_toCellS.i3 (N : Nat) : LoopsOk Tryd.prog (laws_toCellS.cfg N) (nthLoop (fnBody Tryd.f14) 0) := loopsL (l := []) (by kernel_rfl) trivial
theorem laws_toCellS.o3 (N : Nat) : LoopOk Tryd.prog (nthLoop (fnBody Tryd.f14) 0) (loopCon N laws_toCellS.sk3 laws_toCellS.xs3 (fun {R} => laws_toCellS.l3 (R := R) N)) := loop_ok (g := laws_toCellS.cfg N) tys_ok (laws_toCellS.cons N) mixed (laws_toCellS.i3 N) (fun d kn kx => laws_toCellS.h3 N d kn kx)
theorem laws_toCellS.ls (N : Nat) : LoopsOk Tryd.prog (laws_toCellS.cfg N) (fnBody Tryd.f14) := loopsL (l := [nthLoop (fnBody Tryd.f14) 0]) (by kernel_rfl) ⟨loopOne (L0 := loopCon N laws_toCellS.sk3 laws_toCellS.xs3 (fun {R} => laws_toCellS.l3 (R := R) N)) (id := 3) (by kernel_rfl) (by kernel_rfl) (laws_toCellS.o3 N), trivial⟩
theorem laws_toCellS.q3 {R R' : Type} {N n : Nat} {d} {k} {g : R → Option R'} : bindF (loopP (laws_toCellS.l3 N) n d k) g = loopP (laws_toCellS.l3 N) n d fun e => bindF (k e) g := bindF_loopP (fun d kn kx => by simp only [laws_toCellS.l3, bindF_ifB, bindF_bindO, bindF_pure, bindF_none, bindF_onSum]) n d k
theorem laws_toCellS.b (N : Nat) (x0 : den s22) : body (laws_toCellS.cfg N) N Tryd.f14 [.one] [.v] [(false, (.own (.pr (.own .imm) .imm)))] [⟨s22, .imm, x0⟩] (fun r i => some (r, i)) = bindO (laws_toCellS N x0) fun r => some ([⟨s27, (.own (.pr (.own .imm) .imm)), r⟩], []) := by
  show _ = bindF _ _
  conv => rhs; simp only [laws_toCellS, bindF_ifB, bindF_bindO, bindF_pure, bindF_none, bindF_onSum, laws_toCellS.q3]
  kernel_rfl
theorem laws_toCellS.ok (N : Nat) : ConOk Tryd.prog 14 [.one] (laws_toCellS.con N) := ok1 (g := laws_toCellS.cfg N) (N := N) (res := [(false, (.own (.pr (.own .imm) .imm)))]) tys_ok (laws_toCellS.cons N) mixed Tryd.func14 (laws_toCellS.ls N) rfl (laws_toCellS.b N)
theorem laws_toCellS.det (N : Nat) : ConDet (laws_toCellS.con N) := det1
def laws_toGrid.con (N : Nat) : Con := { modes := [.v], ptrs := [false], fn := fn1 s23 .imm (laws_toGrid N) (fun r => [⟨s28, (.pr .imm (.pr .imm (.pr (.own (.pr (.own .imm) .imm)) .imm))), r⟩]) (fun r => []) }
def laws_toGrid.cfg (N : Nat) : Cfg := { ty := tys, keep := [12], flt := [], elm := elm0, live := [], ord := [], con := [((14, [.one]), laws_toCellS.con N)], loops := [], joins := [] }
theorem laws_toGrid.cons (N : Nat) : ConsOk Tryd.prog (laws_toGrid.cfg N).con := (consOk_cons (hb14) (laws_toCellS.ok N) (laws_toCellS.det N) consOk_nil)
theorem laws_toGrid.ls (N : Nat) : LoopsOk Tryd.prog (laws_toGrid.cfg N) (fnBody Tryd.f6) := loopsL (l := []) (by kernel_rfl) trivial
theorem laws_toGrid.b (N : Nat) (x0 : den s23) : body (laws_toGrid.cfg N) N Tryd.f6 [.one] [.v] [(false, (.pr .imm (.pr .imm (.pr (.own (.pr (.own .imm) .imm)) .imm))))] [⟨s23, .imm, x0⟩] (fun r i => some (r, i)) = bindO (laws_toGrid N x0) fun r => some ([⟨s28, (.pr .imm (.pr .imm (.pr (.own (.pr (.own .imm) .imm)) .imm))), r⟩], []) := by
  show _ = bindF _ _
  conv => rhs; simp only [laws_toGrid, bindF_ifB, bindF_bindO, bindF_pure, bindF_none, bindF_onSum]
  kernel_rfl
theorem laws_toGrid.ok (N : Nat) : ConOk Tryd.prog 6 [.one] (laws_toGrid.con N) := ok1 (g := laws_toGrid.cfg N) (N := N) (res := [(false, (.pr .imm (.pr .imm (.pr (.own (.pr (.own .imm) .imm)) .imm))))]) tys_ok (laws_toGrid.cons N) mixed Tryd.func6 (laws_toGrid.ls N) rfl (laws_toGrid.b N)
theorem laws_toGrid.det (N : Nat) : ConDet (laws_toGrid.con N) := det1
def spec_l08Size.con (N : Nat) : Con := { modes := [.v, .v], ptrs := [false], fn := fn2 (.int .i64) .imm (.int .i64) .imm (spec_l08Size N) (fun r => [⟨.bool, .imm, r⟩]) (fun r => []) }
def spec_l08Size.cfg (N : Nat) : Cfg := { ty := tys, keep := [], flt := [], elm := elm0, live := [], ord := [], con := [], loops := [], joins := [] }
theorem spec_l08Size.cons (N : Nat) : ConsOk Tryd.prog (spec_l08Size.cfg N).con := consOk_nil
theorem spec_l08Size.ls (N : Nat) : LoopsOk Tryd.prog (spec_l08Size.cfg N) (fnBody Tryd.f40) := loopsL (l := []) (by kernel_rfl) trivial
theorem spec_l08Size.b (N : Nat) (x0 : den (.int .i64)) (x1 : den (.int .i64)) : body (spec_l08Size.cfg N) N Tryd.f40 [.one, .one] [.v, .v] [(false, .imm)] [⟨(.int .i64), .imm, x0⟩, ⟨(.int .i64), .imm, x1⟩] (fun r i => some (r, i)) = bindO (spec_l08Size N x0 x1) fun r => some ([⟨.bool, .imm, r⟩], []) := by
  show _ = bindF _ _
  conv => rhs; simp only [spec_l08Size, bindF_ifB, bindF_bindO, bindF_pure, bindF_none, bindF_onSum]
  kernel_rfl
theorem spec_l08Size.ok (N : Nat) : ConOk Tryd.prog 40 [.one, .one] (spec_l08Size.con N) := ok2 (g := spec_l08Size.cfg N) (N := N) (res := [(false, .imm)]) tys_ok (spec_l08Size.cons N) mixed Tryd.func40 (spec_l08Size.ls N) rfl (spec_l08Size.b N)
theorem spec_l08Size.det (N : Nat) : ConDet (spec_l08Size.con N) := det2
def spec_l01Point.con (N : Nat) : Con := { modes := [.v], ptrs := [false], fn := fn1 (.int .i64) .imm (spec_l01Point N) (fun r => [⟨.bool, .imm, r⟩]) (fun r => []) }
def spec_l01Point.cfg (N : Nat) : Cfg := { ty := tys, keep := [], flt := [], elm := elm0, live := [], ord := [], con := [], loops := [], joins := [] }
theorem spec_l01Point.cons (N : Nat) : ConsOk Tryd.prog (spec_l01Point.cfg N).con := consOk_nil
theorem spec_l01Point.ls (N : Nat) : LoopsOk Tryd.prog (spec_l01Point.cfg N) (fnBody Tryd.f54) := loopsL (l := []) (by kernel_rfl) trivial
theorem spec_l01Point.b (N : Nat) (x0 : den (.int .i64)) : body (spec_l01Point.cfg N) N Tryd.f54 [.one] [.v] [(false, .imm)] [⟨(.int .i64), .imm, x0⟩] (fun r i => some (r, i)) = bindO (spec_l01Point N x0) fun r => some ([⟨.bool, .imm, r⟩], []) := by
  show _ = bindF _ _
  conv => rhs; simp only [spec_l01Point, bindF_ifB, bindF_bindO, bindF_pure, bindF_none, bindF_onSum]
  kernel_rfl
theorem spec_l01Point.ok (N : Nat) : ConOk Tryd.prog 54 [.one] (spec_l01Point.con N) := ok1 (g := spec_l01Point.cfg N) (N := N) (res := [(false, .imm)]) tys_ok (spec_l01Point.cons N) mixed Tryd.func54 (spec_l01Point.ls N) rfl (spec_l01Point.b N)
theorem spec_l01Point.det (N : Nat) : ConDet (spec_l01Point.con N) := det1
def spec_WidthOf.con (N : Nat) : Con := { modes := [.v], ptrs := [false], fn := fn1 (.int .i64) .imm (spec_WidthOf N) (fun r => [⟨(.int .i64), .imm, r⟩]) (fun r => []) }
def spec_WidthOf.cfg (N : Nat) : Cfg := { ty := tys, keep := [4], flt := [], elm := elm0, live := [], ord := [], con := [((54, [.one]), spec_l01Point.con N)], loops := [], joins := [] }
theorem spec_WidthOf.cons (N : Nat) : ConsOk Tryd.prog (spec_WidthOf.cfg N).con := (consOk_cons (hb54) (spec_l01Point.ok N) (spec_l01Point.det N) consOk_nil)
theorem spec_WidthOf.ls (N : Nat) : LoopsOk Tryd.prog (spec_WidthOf.cfg N) (fnBody Tryd.f55) := loopsL (l := []) (by kernel_rfl) trivial
theorem spec_WidthOf.b (N : Nat) (x0 : den (.int .i64)) : body (spec_WidthOf.cfg N) N Tryd.f55 [.one] [.v] [(false, .imm)] [⟨(.int .i64), .imm, x0⟩] (fun r i => some (r, i)) = bindO (spec_WidthOf N x0) fun r => some ([⟨(.int .i64), .imm, r⟩], []) := by
  show _ = bindF _ _
  conv => rhs; simp only [spec_WidthOf, bindF_ifB, bindF_bindO, bindF_pure, bindF_none, bindF_onSum]
  kernel_rfl
theorem spec_WidthOf.ok (N : Nat) : ConOk Tryd.prog 55 [.one] (spec_WidthOf.con N) := ok1 (g := spec_WidthOf.cfg N) (N := N) (res := [(false, .imm)]) tys_ok (spec_WidthOf.cons N) mixed Tryd.func55 (spec_WidthOf.ls N) rfl (spec_WidthOf.b N)
theorem spec_WidthOf.det (N : Nat) : ConDet (spec_WidthOf.con N) := det1
def spec_l08Cell.sk4 : Skel := ⟨dd 1 (.ptr 50 [] :: (dd 1 (.pv (.int .i64) :: (dd 46 [])))), [⟨50, s37, .imm, true, false⟩]⟩
def spec_l08Cell.xs4 : List XS := [⟨.exit 0, [], ⟨dd 50 [], []⟩⟩, ⟨.ret, [2], ⟨dd 2 (.pv .bool :: (dd 47 [])), []⟩⟩]
def spec_l08Cell.con (N : Nat) : Con := { modes := [.v], ptrs := [false], fn := fn1 s37 .imm (spec_l08Cell N) (fun r => [⟨.bool, .imm, r⟩]) (fun r => []) }
def spec_l08Cell.cfg (N : Nat) : Cfg := { ty := tys, keep := [32, 38], flt := [], elm := elm0, live := [(4, [1, 3])], ord := [], con := [((54, [.one]), spec_l01Point.con N), ((55, [.one]), spec_WidthOf.con N)], loops := [(4, loopCon N spec_l08Cell.sk4 spec_l08Cell.xs4 (fun {R} => spec_l08Cell.l4 (R := R) N))], joins := [] }
theorem spec_l08Cell.cons (N : Nat) : ConsOk Tryd.prog (spec_l08Cell.cfg N).con := (consOk_cons (hb54) (spec_l01Point.ok N) (spec_l01Point.det N) (consOk_cons (hb55) (spec_WidthOf.ok N) (spec_WidthOf.det N) consOk_nil))
theorem spec_l08Cell.h4 {R : Type} (N : Nat) (d : spec_l08Cell.sk4.D) (kn : spec_l08Cell.sk4.D → Option R) (kx : XD spec_l08Cell.xs4 → Option R) : roundK (spec_l08Cell.cfg N) N (nthLoop (fnBody Tryd.f41) 0) spec_l08Cell.sk4 spec_l08Cell.xs4 d kn kx = spec_l08Cell.l4 N d kn kx := by kernel_rfl
theorem spec_l08Cell.i4 (N : Nat) : LoopsOk Tryd.prog (spec_l08Cell.cfg N) (nthLoop (fnBody Tryd.f41) 0) := loopsL (l := []) (by kernel_rfl) trivial
theorem spec_l08Cell.o4 (N : Nat) : LoopOk Tryd.prog (nthLoop (fnBody Tryd.f41) 0) (loopCon N spec_l08Cell.sk4 spec_l08Cell.xs4 (fun {R} => spec_l08Cell.l4 (R := R) N)) := loop_ok (g := spec_l08Cell.cfg N) tys_ok (spec_l08Cell.cons N) mixed (spec_l08Cell.i4 N) (fun d kn kx => spec_l08Cell.h4 N d kn kx)
theorem spec_l08Cell.ls (N : Nat) : LoopsOk Tryd.prog (spec_l08Cell.cfg N) (fnBody Tryd.f41) := loopsL (l := [nthLoop (fnBody Tryd.f41) 0]) (by kernel_rfl) ⟨loopOne (L0 := loopCon N spec_l08Cell.sk4 spec_l08Cell.xs4 (fun {R} => spec_l08Cell.l4 (R := R) N)) (id := 4) (by kernel_rfl) (by kernel_rfl) (spec_l08Cell.o4 N), trivial⟩
theorem spec_l08Cell.q4 {R R' : Type} {N n : Nat} {d} {k} {g : R → Option R'} : bindF (loopP (spec_l08Cell.l4 N) n d k) g = loopP (spec_l08Cell.l4 N) n d fun e => bindF (k e) g := bindF_loopP (fun d kn kx => by simp only [spec_l08Cell.l4, bindF_ifB, bindF_bindO, bindF_pure, bindF_none, bindF_onSum]) n d k
theorem spec_l08Cell.b (N : Nat) (x0 : den s37) : body (spec_l08Cell.cfg N) N Tryd.f41 [.one] [.v] [(false, .imm)] [⟨s37, .imm, x0⟩] (fun r i => some (r, i)) = bindO (spec_l08Cell N x0) fun r => some ([⟨.bool, .imm, r⟩], []) := by
  show _ = bindF _ _
  conv => rhs; simp only [spec_l08Cell, bindF_ifB, bindF_bindO, bindF_pure, bindF_none, bindF_onSum, spec_l08Cell.q4]
  kernel_rfl
theorem spec_l08Cell.ok (N : Nat) : ConOk Tryd.prog 41 [.one] (spec_l08Cell.con N) := ok1 (g := spec_l08Cell.cfg N) (N := N) (res := [(false, .imm)]) tys_ok (spec_l08Cell.cons N) mixed Tryd.func41 (spec_l08Cell.ls N) rfl (spec_l08Cell.b N)
theorem spec_l08Cell.det (N : Nat) : ConDet (spec_l08Cell.con N) := det1
end Go.AE.F
end
