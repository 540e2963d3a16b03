/- The printed functions are what the program comes to: contracts. -/
import Derived.Test.YtmokidikfomifaaGreatXMachineRunL7
noncomputable section
namespace Go.AE.F
open Go.AE Go.Proofs
set_option maxRecDepth 100000
def laws_eqInt64S.sk4 : Skel := ⟨.pv s23 :: (.pv s23 :: (dd 3 (.pv (.int .i64) :: (dd 20 [])))), []⟩
def laws_eqInt64S.xs4 : List XS := [⟨.exit 0, [], ⟨dd 26 [], []⟩⟩, ⟨.ret, [4], ⟨dd 4 (.pv .bool :: (dd 21 [])), []⟩⟩]
def laws_eqInt64S.con (N : Nat) : Con := { modes := [.v, .v], ptrs := [false], fn := fn2 s23 .imm s23 .imm (laws_eqInt64S N) (fun r => [⟨.bool, .imm, r⟩]) (fun r => []) }
def laws_eqInt64S.cfg (N : Nat) : Cfg := { ty := tys, keep := [], flt := [], elm := elm0, live := [(4, [0, 1, 5])], ord := [(6, [0, 1, 2, 3, 4, 5, 6, 7, 8])], con := [], loops := [(4, loopCon N laws_eqInt64S.sk4 laws_eqInt64S.xs4 (fun {R} => laws_eqInt64S.l4 (R := R) N))], joins := [] }
theorem laws_eqInt64S.cons (N : Nat) : ConsOk Tryz.prog (laws_eqInt64S.cfg N).con := consOk_nil
theorem laws_eqInt64S.h4 {R : Type} (N : Nat) (d : laws_eqInt64S.sk4.D) (kn : laws_eqInt64S.sk4.D → Option R) (kx : XD laws_eqInt64S.xs4 → Option R) : roundK (laws_eqInt64S.cfg N) N (nthLoop (fnBody Tryz.f25) 0) laws_eqInt64S.sk4 laws_eqInt64S.xs4 d kn kx = laws_eqInt64S.l4 N d kn kx := by kernel_rfl
theorem laws_eqInt64S.i4 (N : Nat) : LoopsOk Tryz.prog (laws_eqInt64S.cfg N) (nthLoop (fnBody Tryz.f25) 0) := loopsL (l := []) (by kernel_rfl) trivial
theorem laws_eqInt64S.o4 (N : Nat) : LoopOk Tryz.prog (nthLoop (fnBody Tryz.f25) 0) (loopCon N laws_eqInt64S.sk4 laws_eqInt64S.xs4 (fun {R} => laws_eqInt64S.l4 (R := R) N)) := loop_ok (g := laws_eqInt64S.cfg N) tys_ok (laws_eqInt64S.cons N) mixed (laws_eqInt64S.i4 N) (fun d kn kx => laws_eqInt64S.h4 N d kn kx)
theorem laws_eqInt64S.ls (N : Nat) : LoopsOk Tryz.prog (laws_eqInt64S.cfg N) (fnBody Tryz.f25) := loopsL (l := [nthLoop (fnBody Tryz.f25) 0]) (by kernel_rfl) ⟨loopOne (L0 := loopCon N laws_eqInt64S.sk4 laws_eqInt64S.xs4 (fun {R} => laws_eqInt64S.l4 (R := R) N)) (id := 4) (by kernel_rfl) (by kernel_rfl) (laws_eqInt64S.o4 N), trivial⟩
theorem laws_eqInt64S.q4 {R R' : Type} {N n : Nat} {d} {k} {g : R → Option R'} : bindF (loopP (laws_eqInt64S.l4 N) n d k) g = loopP (laws_eqInt64S.l4 N) n d fun e => bindF (k e) g := bindF_loopP (fun d kn kx => by simp only [laws_eqInt64S.l4, bindF_ifB, bindF_bindO, bindF_pure, bindF_none, bindF_onSum]) n d k
theorem laws_eqInt64S.b (N : Nat) (x0 : den s23) (x1 : den s23) : body (laws_eqInt64S.cfg N) N Tryz.f25 [.one, .one] [.v, .v] [(false, .imm)] [⟨s23, .imm, x0⟩, ⟨s23, .imm, x1⟩] (fun r i => some (r, i)) = bindO (laws_eqInt64S N x0 x1) fun r => some ([⟨.bool, .imm, r⟩], []) := by
  show _ = bindF _ _
  conv => rhs; simp only [laws_eqInt64S, bindF_ifB, bindF_bindO, bindF_pure, bindF_none, bindF_onSum, laws_eqInt64S.q4]
  kernel_rfl
theorem laws_eqInt64S.ok (N : Nat) : ConOk Tryz.prog 25 [.one, .one] (laws_eqInt64S.con N) := ok2 (g := laws_eqInt64S.cfg N) (N := N) (res := [(false, .imm)]) tys_ok (laws_eqInt64S.cons N) mixed Tryz.func25 (laws_eqInt64S.ls N) rfl (laws_eqInt64S.b N)
theorem laws_eqInt64S.det (N : Nat) : ConDet (laws_eqInt64S.con N) := det2
def laws_eqBuf.con (N : Nat) : Con := { modes := [.v, .v], ptrs := [false], fn := fn2 s24 .imm s24 .imm (laws_eqBuf N) (fun r => [⟨.bool, .imm, r⟩]) (fun r => []) }
def laws_eqBuf.cfg (N : Nat) : Cfg := { ty := tys, keep := [9], flt := [], elm := elm0, live := [], ord := [], con := [((25, [.one, .one]), laws_eqInt64S.con N)], loops := [], joins := [] }
theorem laws_eqBuf.cons (N : Nat) : ConsOk Tryz.prog (laws_eqBuf.cfg N).con := (consOk_cons (hb25) (laws_eqInt64S.ok N) (laws_eqInt64S.det N) consOk_nil)
theorem laws_eqBuf.ls (N : Nat) : LoopsOk Tryz.prog (laws_eqBuf.cfg N) (fnBody Tryz.f12) := loopsL (l := []) (by kernel_rfl) trivial
theorem laws_eqBuf.b (N : Nat) (x0 : den s24) (x1 : den s24) : body (laws_eqBuf.cfg N) N Tryz.f12 [.one, .one] [.v, .v] [(false, .imm)] [⟨s24, .imm, x0⟩, ⟨s24, .imm, x1⟩] (fun r i => some (r, i)) = bindO (laws_eqBuf N x0 x1) fun r => some ([⟨.bool, .imm, r⟩], []) := by
  show _ = bindF _ _
  conv => rhs; simp only [laws_eqBuf, bindF_ifB, bindF_bindO, bindF_pure, bindF_none, bindF_onSum]
  kernel_rfl
theorem laws_eqBuf.ok (N : Nat) : ConOk Tryz.prog 12 [.one, .one] (laws_eqBuf.con N) := ok2 (g := laws_eqBuf.cfg N) (N := N) (res := [(false, .imm)]) tys_ok (laws_eqBuf.cons N) mixed Tryz.func12 (laws_eqBuf.ls N) rfl (laws_eqBuf.b N)
theorem laws_eqBuf.det (N : Nat) : ConDet (laws_eqBuf.con N) := det2
def laws_eqRan.con (N : Nat) : Con := { modes := [.v, .v], ptrs := [false], fn := fn2 s29 .imm s29 .imm (laws_eqRan N) (fun r => [⟨.bool, .imm, r⟩]) (fun r => []) }
def laws_eqRan.cfg (N : Nat) : Cfg := { ty := tys, keep := [9], flt := [], elm := elm0, live := [], ord := [], con := [((12, [.one, .one]), laws_eqBuf.con N)], loops := [], joins := [] }
theorem laws_eqRan.cons (N : Nat) : ConsOk Tryz.prog (laws_eqRan.cfg N).con := (consOk_cons (hb12) (laws_eqBuf.ok N) (laws_eqBuf.det N) consOk_nil)
theorem laws_eqRan.ls (N : Nat) : LoopsOk Tryz.prog (laws_eqRan.cfg N) (fnBody Tryz.f10) := loopsL (l := []) (by kernel_rfl) trivial
theorem laws_eqRan.b (N : Nat) (x0 : den s29) (x1 : den s29) : body (laws_eqRan.cfg N) N Tryz.f10 [.one, .one] [.v, .v] [(false, .imm)] [⟨s29, .imm, x0⟩, ⟨s29, .imm, x1⟩] (fun r i => some (r, i)) = bindO (laws_eqRan N x0 x1) fun r => some ([⟨.bool, .imm, r⟩], []) := by
  show _ = bindF _ _
  conv => rhs; simp only [laws_eqRan, bindF_ifB, bindF_bindO, bindF_pure, bindF_none, bindF_onSum]
  kernel_rfl
theorem laws_eqRan.ok (N : Nat) : ConOk Tryz.prog 10 [.one, .one] (laws_eqRan.con N) := ok2 (g := laws_eqRan.cfg N) (N := N) (res := [(false, .imm)]) tys_ok (laws_eqRan.cons N) mixed Tryz.func10 (laws_eqRan.ls N) rfl (laws_eqRan.b N)
theorem laws_eqRan.det (N : Nat) : ConDet (laws_eqRan.con N) := det2
def laws_eqOp.con (N : Nat) : Con := { modes := [.v, .v], ptrs := [false], fn := fn2 s47 .imm s47 .imm (laws_eqOp N) (fun r => [⟨.bool, .imm, r⟩]) (fun r => []) }
def laws_eqOp.cfg (N : Nat) : Cfg := { ty := tys, keep := [], flt := [], elm := elm0, live := [], ord := [], con := [], loops := [], joins := [] }
theorem laws_eqOp.cons (N : Nat) : ConsOk Tryz.prog (laws_eqOp.cfg N).con := consOk_nil
theorem laws_eqOp.ls (N : Nat) : LoopsOk Tryz.prog (laws_eqOp.cfg N) (fnBody Tryz.f24) := loopsL (l := []) (by kernel_rfl) trivial
theorem laws_eqOp.b (N : Nat) (x0 : den s47) (x1 : den s47) : body (laws_eqOp.cfg N) N Tryz.f24 [.one, .one] [.v, .v] [(false, .imm)] [⟨s47, .imm, x0⟩, ⟨s47, .imm, x1⟩] (fun r i => some (r, i)) = bindO (laws_eqOp N x0 x1) fun r => some ([⟨.bool, .imm, r⟩], []) := by
  show _ = bindF _ _
  conv => rhs; simp only [laws_eqOp, bindF_ifB, bindF_bindO, bindF_pure, bindF_none, bindF_onSum]
  kernel_rfl
theorem laws_eqOp.ok (N : Nat) : ConOk Tryz.prog 24 [.one, .one] (laws_eqOp.con N) := ok2 (g := laws_eqOp.cfg N) (N := N) (res := [(false, .imm)]) tys_ok (laws_eqOp.cons N) mixed Tryz.func24 (laws_eqOp.ls N) rfl (laws_eqOp.b N)
theorem laws_eqOp.det (N : Nat) : ConDet (laws_eqOp.con N) := det2
def laws_eqOpS.sk4 : Skel := ⟨.pv s32 :: (.pv s32 :: (dd 3 (.pv (.int .i64) :: (dd 21 [])))), []⟩
def laws_eqOpS.xs4 : List XS := [⟨.exit 0, [], ⟨dd 27 [], []⟩⟩, ⟨.ret, [4], ⟨dd 4 (.pv .bool :: (dd 22 [])), []⟩⟩]
def laws_eqOpS.con (N : Nat) : Con := { modes := [.v, .v], ptrs := [false], fn := fn2 s32 .imm s32 .imm (laws_eqOpS N) (fun r => [⟨.bool, .imm, r⟩]) (fun r => []) }
def laws_eqOpS.cfg (N : Nat) : Cfg := { ty := tys, keep := [25], flt := [], elm := elm0, live := [(4, [0, 1, 5])], ord := [(6, [0, 1, 2, 3, 4, 5, 6, 7, 8, 9])], con := [((24, [.one, .one]), laws_eqOp.con N)], loops := [(4, loopCon N laws_eqOpS.sk4 laws_eqOpS.xs4 (fun {R} => laws_eqOpS.l4 (R := R) N))], joins := [] }
theorem laws_eqOpS.cons (N : Nat) : ConsOk Tryz.prog (laws_eqOpS.cfg N).con := (consOk_cons (hb24) (laws_eqOp.ok N) (laws_eqOp.det N) consOk_nil)
theorem laws_eqOpS.h4 {R : Type} (N : Nat) (d : laws_eqOpS.sk4.D) (kn : laws_eqOpS.sk4.D → Option R) (kx : XD laws_eqOpS.xs4 → Option R) : roundK (laws_eqOpS.cfg N) N (nthLoop (fnBody Tryz.f11) 0) laws_eqOpS.sk4 laws_eqOpS.xs4 d kn kx = laws_eqOpS.l4 N d kn kx := by kernel_rfl
theorem laws_eqOpS.i4 (N : Nat) : LoopsOk Tryz.prog (laws_eqOpS.cfg N) (nthLoop (fnBody Tryz.f11) 0) := loopsL (l := []) (by kernel_rfl) trivial
theorem laws_eqOpS.o4 (N : Nat) : LoopOk Tryz.prog (nthLoop (fnBody Tryz.f11) 0) (loopCon N laws_eqOpS.sk4 laws_eqOpS.xs4 (fun {R} => laws_eqOpS.l4 (R := R) N)) := loop_ok (g := laws_eqOpS.cfg N) tys_ok (laws_eqOpS.cons N) mixed (laws_eqOpS.i4 N) (fun d kn kx => laws_eqOpS.h4 N d kn kx)
theorem laws_eqOpS.ls (N : Nat) : LoopsOk Tryz.prog (laws_eqOpS.cfg N) (fnBody Tryz.f11) := loopsL (l := [nthLoop (fnBody Tryz.f11) 0]) (by kernel_rfl) ⟨loopOne (L0 := loopCon N laws_eqOpS.sk4 laws_eqOpS.xs4 (fun {R} => laws_eqOpS.l4 (R := R) N)) (id := 4) (by kernel_rfl) (by kernel_rfl) (laws_eqOpS.o4 N), trivial⟩
theorem laws_eqOpS.q4 {R R' : Type} {N n : Nat} {d} {k} {g : R → Option R'} : bindF (loopP (laws_eqOpS.l4 N) n d k) g = loopP (laws_eqOpS.l4 N) n d fun e => bindF (k e) g := bindF_loopP (fun d kn kx => by simp only [laws_eqOpS.l4, bindF_ifB, bindF_bindO, bindF_pure, bindF_none, bindF_onSum]) n d k
theorem laws_eqOpS.b (N : Nat) (x0 : den s32) (x1 : den s32) : body (laws_eqOpS.cfg N) N Tryz.f11 [.one, .one] [.v, .v] [(false, .imm)] [⟨s32, .imm, x0⟩, ⟨s32, .imm, x1⟩] (fun r i => some (r, i)) = bindO (laws_eqOpS N x0 x1) fun r => some ([⟨.bool, .imm, r⟩], []) := by
  show _ = bindF _ _
  conv => rhs; simp only [laws_eqOpS, bindF_ifB, bindF_bindO, bindF_pure, bindF_none, bindF_onSum, laws_eqOpS.q4]
  kernel_rfl
theorem laws_eqOpS.ok (N : Nat) : ConOk Tryz.prog 11 [.one, .one] (laws_eqOpS.con N) := ok2 (g := laws_eqOpS.cfg N) (N := N) (res := [(false, .imm)]) tys_ok (laws_eqOpS.cons N) mixed Tryz.func11 (laws_eqOpS.ls N) rfl (laws_eqOpS.b N)
theorem laws_eqOpS.det (N : Nat) : ConDet (laws_eqOpS.con N) := det2
def laws_markOpS.sk2 : Skel := ⟨.ov 0 [] :: (.pv (.int .i64) :: (dd 3 (.pv (.int .i64) :: (dd 21 [])))), [⟨0, s32, (.own .imm), false, true⟩]⟩
def laws_markOpS.xs2 : List XS := [⟨.exit 0, [1], ⟨dd 1 (.pv (.int .i64) :: (dd 25 [])), [⟨0, s32, (.own .imm), false, true⟩]⟩⟩]
def laws_markOpS.con (N : Nat) : Con := { modes := [.iov, .v], ptrs := [false], fn := fn2 s32 (.own .imm) (.int .i64) .imm (laws_markOpS N) (fun r => [⟨(.int .i64), .imm, r.1⟩]) (fun r => [⟨s32, (.own .imm), r.2⟩]) }
def laws_markOpS.cfg (N : Nat) : Cfg := { ty := tys, keep := [], flt := [], elm := elm0, live := [(2, [0, 1, 5])], ord := [], con := [], loops := [(2, loopCon N laws_markOpS.sk2 laws_markOpS.xs2 (fun {R} => laws_markOpS.l2 (R := R) N))], joins := [] }
theorem laws_markOpS.cons (N : Nat) : ConsOk Tryz.prog (laws_markOpS.cfg N).con := consOk_nil
theorem laws_markOpS.h2 {R : Type} (N : Nat) (d : laws_markOpS.sk2.D) (kn : laws_markOpS.sk2.D → Option R) (kx : XD laws_markOpS.xs2 → Option R) : roundK (laws_markOpS.cfg N) N (nthLoop (fnBody Tryz.f13) 0) laws_markOpS.sk2 laws_markOpS.xs2 d kn kx = laws_markOpS.l2 N d kn kx := by kernel_rfl
theorem laws_markOpS.i2 (N : Nat) : LoopsOk Tryz.prog (laws_markOpS.cfg N) (nthLoop (fnBody Tryz.f13) 0) := loopsL (l := []) (by kernel_rfl) trivial
theorem laws_markOpS.o2 (N : Nat) : LoopOk Tryz.prog (nthLoop (fnBody Tryz.f13) 0) (loopCon N laws_markOpS.sk2 laws_markOpS.xs2 (fun {R} => laws_markOpS.l2 (R := R) N)) := loop_ok (g := laws_markOpS.cfg N) tys_ok (laws_markOpS.cons N) mixed (laws_markOpS.i2 N) (fun d kn kx => laws_markOpS.h2 N d kn kx)
theorem laws_markOpS.ls (N : Nat) : LoopsOk Tryz.prog (laws_markOpS.cfg N) (fnBody Tryz.f13) := loopsL (l := [nthLoop (fnBody Tryz.f13) 0]) (by kernel_rfl) ⟨loopOne (L0 := loopCon N laws_markOpS.sk2 laws_markOpS.xs2 (fun {R} => laws_markOpS.l2 (R := R) N)) (id := 2) (by kernel_rfl) (by kernel_rfl) (laws_markOpS.o2 N), trivial⟩
theorem laws_markOpS.q2 {R R' : Type} {N n : Nat} {d} {k} {g : R → Option R'} : bindF (loopP (laws_markOpS.l2 N) n d k) g = loopP (laws_markOpS.l2 N) n d fun e => bindF (k e) g := bindF_loopP (fun d kn kx => by simp only [laws_markOpS.l2, bindF_ifB, bindF_bindO, bindF_pure, bindF_none, bindF_onSum]) n d k
theorem laws_markOpS.b (N : Nat) (x0 : den s32) (x1 : den (.int .i64)) : body (laws_markOpS.cfg N) N Tryz.f13 [.one, .one] [.iov, .v] [(false, .imm)] [⟨s32, (.own .imm), x0⟩, ⟨(.int .i64), .imm, x1⟩] (fun r i => some (r, i)) = bindO (laws_markOpS N x0 x1) fun r => some ([⟨(.int .i64), .imm, r.1⟩], [⟨s32, (.own .imm), r.2⟩]) := by
  show _ = bindF _ _
  conv => rhs; simp only [laws_markOpS, bindF_ifB, bindF_bindO, bindF_pure, bindF_none, bindF_onSum, laws_markOpS.q2]
  kernel_rfl
theorem laws_markOpS.ok (N : Nat) : ConOk Tryz.prog 13 [.one, .one] (laws_markOpS.con N) := ok2 (g := laws_markOpS.cfg N) (N := N) (res := [(false, .imm)]) tys_ok (laws_markOpS.cons N) mixed Tryz.func13 (laws_markOpS.ls N) rfl (laws_markOpS.b N)
theorem laws_markOpS.det (N : Nat) : ConDet (laws_markOpS.con N) := det2
def laws_markInt64S.sk2 : Skel := ⟨.ov 0 [] :: (.pv (.int .i64) :: (dd 3 (.pv (.int .i64) :: (dd 13 [])))), [⟨0, s23, (.own .imm), false, true⟩]⟩
def laws_markInt64S.xs2 : List XS := [⟨.exit 0, [1], ⟨dd 1 (.pv (.int .i64) :: (dd 17 [])), [⟨0, s23, (.own .imm), false, true⟩]⟩⟩]
def laws_markInt64S.con (N : Nat) : Con := { modes := [.iov, .v], ptrs := [false], fn := fn2 s23 (.own .imm) (.int .i64) .imm (laws_markInt64S N) (fun r => [⟨(.int .i64), .imm, r.1⟩]) (fun r => [⟨s23, (.own .imm), r.2⟩]) }
def laws_markInt64S.cfg (N : Nat) : Cfg := { ty := tys, keep := [], flt := [], elm := elm0, live := [(2, [0, 1, 5])], ord := [], con := [], loops := [(2, loopCon N laws_markInt64S.sk2 laws_markInt64S.xs2 (fun {R} => laws_markInt64S.l2 (R := R) N))], joins := [] }
theorem laws_markInt64S.cons (N : Nat) : ConsOk Tryz.prog (laws_markInt64S.cfg N).con := consOk_nil
theorem laws_markInt64S.h2 {R : Type} (N : Nat) (d : laws_markInt64S.sk2.D) (kn : laws_markInt64S.sk2.D → Option R) (kx : XD laws_markInt64S.xs2 → Option R) : roundK (laws_markInt64S.cfg N) N (nthLoop (fnBody Tryz.f26) 0) laws_markInt64S.sk2 laws_markInt64S.xs2 d kn kx = laws_markInt64S.l2 N d kn kx := by kernel_rfl
theorem laws_markInt64S.i2 (N : Nat) : LoopsOk Tryz.prog (laws_markInt64S.cfg N) (nthLoop (fnBody Tryz.f26) 0) := loopsL (l := []) (by kernel_rfl) trivial
theorem laws_markInt64S.o2 (N : Nat) : LoopOk Tryz.prog (nthLoop (fnBody Tryz.f26) 0) (loopCon N laws_markInt64S.sk2 laws_markInt64S.xs2 (fun {R} => laws_markInt64S.l2 (R := R) N)) := loop_ok (g := laws_markInt64S.cfg N) tys_ok (laws_markInt64S.cons N) mixed (laws_markInt64S.i2 N) (fun d kn kx => laws_markInt64S.h2 N d kn kx)
theorem laws_markInt64S.ls (N : Nat) : LoopsOk Tryz.prog (laws_markInt64S.cfg N) (fnBody Tryz.f26) := loopsL (l := [nthLoop (fnBody Tryz.f26) 0]) (by kernel_rfl) ⟨loopOne (L0 := loopCon N laws_markInt64S.sk2 laws_markInt64S.xs2 (fun {R} => laws_markInt64S.l2 (R := R) N)) (id := 2) (by kernel_rfl) (by kernel_rfl) (laws_markInt64S.o2 N), trivial⟩
theorem laws_markInt64S.q2 {R R' : Type} {N n : Nat} {d} {k} {g : R → Option R'} : bindF (loopP (laws_markInt64S.l2 N) n d k) g = loopP (laws_markInt64S.l2 N) n d fun e => bindF (k e) g := bindF_loopP (fun d kn kx => by simp only [laws_markInt64S.l2, bindF_ifB, bindF_bindO, bindF_pure, bindF_none, bindF_onSum]) n d k
theorem laws_markInt64S.b (N : Nat) (x0 : den s23) (x1 : den (.int .i64)) : body (laws_markInt64S.cfg N) N Tryz.f26 [.one, .one] [.iov, .v] [(false, .imm)] [⟨s23, (.own .imm), x0⟩, ⟨(.int .i64), .imm, x1⟩] (fun r i => some (r, i)) = bindO (laws_markInt64S N x0 x1) fun r => some ([⟨(.int .i64), .imm, r.1⟩], [⟨s23, (.own .imm), r.2⟩]) := by
  show _ = bindF _ _
  conv => rhs; simp only [laws_markInt64S, bindF_ifB, bindF_bindO, bindF_pure, bindF_none, bindF_onSum, laws_markInt64S.q2]
  kernel_rfl
theorem laws_markInt64S.ok (N : Nat) : ConOk Tryz.prog 26 [.one, .one] (laws_markInt64S.con N) := ok2 (g := laws_markInt64S.cfg N) (N := N) (res := [(false, .imm)]) tys_ok (laws_markInt64S.cons N) mixed Tryz.func26 (laws_markInt64S.ls N) rfl (laws_markInt64S.b N)
theorem laws_markInt64S.det (N : Nat) : ConDet (laws_markInt64S.con N) := det2
def laws_markBuf.con (N : Nat) : Con := { modes := [.iov, .v], ptrs := [false], fn := fn2 s24 (.pr (.own .imm) .imm) (.int .i64) .imm (laws_markBuf N) (fun r => [⟨(.int .i64), .imm, r.1⟩]) (fun r => [⟨s24, (.pr (.own .imm) .imm), r.2⟩]) }
def laws_markBuf.cfg (N : Nat) : Cfg := { ty := tys, keep := [8], flt := [], elm := elm0, live := [], ord := [], con := [((26, [.one, .one]), laws_markInt64S.con N)], loops := [], joins := [] }
theorem laws_markBuf.cons (N : Nat) : ConsOk Tryz.prog (laws_markBuf.cfg N).con := (consOk_cons (hb26) (laws_markInt64S.ok N) (laws_markInt64S.det N) consOk_nil)
theorem laws_markBuf.ls (N : Nat) : LoopsOk Tryz.prog (laws_markBuf.cfg N) (fnBody Tryz.f14) := loopsL (l := []) (by kernel_rfl) trivial
theorem laws_markBuf.b (N : Nat) (x0 : den s24) (x1 : den (.int .i64)) : body (laws_markBuf.cfg N) N Tryz.f14 [.one, .one] [.iov, .v] [(false, .imm)] [⟨s24, (.pr (.own .imm) .imm), x0⟩, ⟨(.int .i64), .imm, x1⟩] (fun r i => some (r, i)) = bindO (laws_markBuf N x0 x1) fun r => some ([⟨(.int .i64), .imm, r.1⟩], [⟨s24, (.pr (.own .imm) .imm), r.2⟩]) := by
  show _ = bindF _ _
  conv => rhs; simp only [laws_markBuf, bindF_ifB, bindF_bindO, bindF_pure, bindF_none, bindF_onSum]
  kernel_rfl
theorem laws_markBuf.ok (N : Nat) : ConOk Tryz.prog 14 [.one, .one] (laws_markBuf.con N) := ok2 (g := laws_markBuf.cfg N) (N := N) (res := [(false, .imm)]) tys_ok (laws_markBuf.cons N) mixed Tryz.func14 (laws_markBuf.ls N) rfl (laws_markBuf.b N)
theorem laws_markBuf.det (N : Nat) : ConDet (laws_markBuf.con N) := det2
def laws_markRan.con (N : Nat) : Con := { modes := [.iov, .v], ptrs := [false], fn := fn2 s29 (.pr (.pr (.own .imm) .imm) .imm) (.int .i64) .imm (laws_markRan N) (fun r => [⟨(.int .i64), .imm, r.1⟩]) (fun r => [⟨s29, (.pr (.pr (.own .imm) .imm) .imm), r.2⟩]) }
def laws_markRan.cfg (N : Nat) : Cfg := { ty := tys, keep := [8], flt := [], elm := elm0, live := [], ord := [], con := [((14, [.one, .one]), laws_markBuf.con N)], loops := [], joins := [] }
theorem laws_markRan.cons (N : Nat) : ConsOk Tryz.prog (laws_markRan.cfg N).con := (consOk_cons (hb14) (laws_markBuf.ok N) (laws_markBuf.det N) consOk_nil)
theorem laws_markRan.ls (N : Nat) : LoopsOk Tryz.prog (laws_markRan.cfg N) (fnBody Tryz.f15) := loopsL (l := []) (by kernel_rfl) trivial
theorem laws_markRan.b (N : Nat) (x0 : den s29) (x1 : den (.int .i64)) : body (laws_markRan.cfg N) N Tryz.f15 [.one, .one] [.iov, .v] [(false, .imm)] [⟨s29, (.pr (.pr (.own .imm) .imm) .imm), x0⟩, ⟨(.int .i64), .imm, x1⟩] (fun r i => some (r, i)) = bindO (laws_markRan N x0 x1) fun r => some ([⟨(.int .i64), .imm, r.1⟩], [⟨s29, (.pr (.pr (.own .imm) .imm) .imm), r.2⟩]) := by
  show _ = bindF _ _
  conv => rhs; simp only [laws_markRan, bindF_ifB, bindF_bindO, bindF_pure, bindF_none, bindF_onSum]
  kernel_rfl
theorem laws_markRan.ok (N : Nat) : ConOk Tryz.prog 15 [.one, .one] (laws_markRan.con N) := ok2 (g := laws_markRan.cfg N) (N := N) (res := [(false, .imm)]) tys_ok (laws_markRan.cons N) mixed Tryz.func15 (laws_markRan.ls N) rfl (laws_markRan.b N)
theorem laws_markRan.det (N : Nat) : ConDet (laws_markRan.con N) := det2
def laws_heldInt64S.sk2 : Skel := ⟨.pv s23 :: (.pv (.int .i64) :: (dd 3 (.pv (.int .i64) :: (dd 15 [])))), []⟩
def laws_heldInt64S.xs2 : List XS := [⟨.exit 0, [1], ⟨dd 1 (.pv (.int .i64) :: (dd 19 [])), []⟩⟩, ⟨.ret, [4], ⟨dd 4 (.pv (.int .i64) :: (dd 16 [])), []⟩⟩]
def laws_heldInt64S.con (N : Nat) : Con := { modes := [.v, .v], ptrs := [false], fn := fn2 s23 .imm (.int .i64) .imm (laws_heldInt64S N) (fun r => [⟨(.int .i64), .imm, r⟩]) (fun r => []) }
def laws_heldInt64S.cfg (N : Nat) : Cfg := { ty := tys, keep := [], flt := [], elm := elm0, live := [(2, [0, 1, 5])], ord := [], con := [], loops := [(2, loopCon N laws_heldInt64S.sk2 laws_heldInt64S.xs2 (fun {R} => laws_heldInt64S.l2 (R := R) N))], joins := [] }
theorem laws_heldInt64S.cons (N : Nat) : ConsOk Tryz.prog (laws_heldInt64S.cfg N).con := consOk_nil
theorem laws_heldInt64S.h2 {R : Type} (N : Nat) (d : laws_heldInt64S.sk2.D) (kn : laws_heldInt64S.sk2.D → Option R) (kx : XD laws_heldInt64S.xs2 → Option R) : roundK (laws_heldInt64S.cfg N) N (nthLoop (fnBody Tryz.f45) 0) laws_heldInt64S.sk2 laws_heldInt64S.xs2 d kn kx = laws_heldInt64S.l2 N d kn kx := by kernel_rfl
theorem laws_heldInt64S.i2 (N : Nat) : LoopsOk Tryz.prog (laws_heldInt64S.cfg N) (nthLoop (fnBody Tryz.f45) 0) := loopsL (l := []) (by kernel_rfl) trivial
theorem laws_heldInt64S.o2 (N : Nat) : LoopOk Tryz.prog (nthLoop (fnBody Tryz.f45) 0) (loopCon N laws_heldInt64S.sk2 laws_heldInt64S.xs2 (fun {R} => laws_heldInt64S.l2 (R := R) N)) := loop_ok (g := laws_heldInt64S.cfg N) tys_ok (laws_heldInt64S.cons N) mixed (laws_heldInt64S.i2 N) (fun d kn kx => laws_heldInt64S.h2 N d kn kx)
theorem laws_heldInt64S.ls (N : Nat) : LoopsOk Tryz.prog (laws_heldInt64S.cfg N) (fnBody Tryz.f45) := loopsL (l := [nthLoop (fnBody Tryz.f45) 0]) (by kernel_rfl) ⟨loopOne (L0 := loopCon N laws_heldInt64S.sk2 laws_heldInt64S.xs2 (fun {R} => laws_heldInt64S.l2 (R := R) N)) (id := 2) (by kernel_rfl) (by kernel_rfl) (laws_heldInt64S.o2 N), trivial⟩
theorem laws_heldInt64S.q2 {R R' : Type} {N n : Nat} {d} {k} {g : R → Option R'} : bindF (loopP (laws_heldInt64S.l2 N) n d k) g = loopP (laws_heldInt64S.l2 N) n d fun e => bindF (k e) g := bindF_loopP (fun d kn kx => by simp only [laws_heldInt64S.l2, bindF_ifB, bindF_bindO, bindF_pure, bindF_none, bindF_onSum]) n d k
theorem laws_heldInt64S.b (N : Nat) (x0 : den s23) (x1 : den (.int .i64)) : body (laws_heldInt64S.cfg N) N Tryz.f45 [.one, .one] [.v, .v] [(false, .imm)] [⟨s23, .imm, x0⟩, ⟨(.int .i64), .imm, x1⟩] (fun r i => some (r, i)) = bindO (laws_heldInt64S N x0 x1) fun r => some ([⟨(.int .i64), .imm, r⟩], []) := by
  show _ = bindF _ _
  conv => rhs; simp only [laws_heldInt64S, bindF_ifB, bindF_bindO, bindF_pure, bindF_none, bindF_onSum, laws_heldInt64S.q2]
  kernel_rfl
theorem laws_heldInt64S.ok (N : Nat) : ConOk Tryz.prog 45 [.one, .one] (laws_heldInt64S.con N) := ok2 (g := laws_heldInt64S.cfg N) (N := N) (res := [(false, .imm)]) tys_ok (laws_heldInt64S.cons N) mixed Tryz.func45 (laws_heldInt64S.ls N) rfl (laws_heldInt64S.b N)
theorem laws_heldInt64S.det (N : Nat) : ConDet (laws_heldInt64S.con N) := det2
def laws_heldBuf.con (N : Nat) : Con := { modes := [.v, .v], ptrs := [false], fn := fn2 s24 .imm (.int .i64) .imm (laws_heldBuf N) (fun r => [⟨(.int .i64), .imm, r⟩]) (fun r => []) }
def laws_heldBuf.cfg (N : Nat) : Cfg := { ty := tys, keep := [8], flt := [], elm := elm0, live := [], ord := [], con := [((45, [.one, .one]), laws_heldInt64S.con N)], loops := [], joins := [] }
theorem laws_heldBuf.cons (N : Nat) : ConsOk Tryz.prog (laws_heldBuf.cfg N).con := (consOk_cons (hb45) (laws_heldInt64S.ok N) (laws_heldInt64S.det N) consOk_nil)
theorem laws_heldBuf.ls (N : Nat) : LoopsOk Tryz.prog (laws_heldBuf.cfg N) (fnBody Tryz.f27) := loopsL (l := []) (by kernel_rfl) trivial
theorem laws_heldBuf.b (N : Nat) (x0 : den s24) (x1 : den (.int .i64)) : body (laws_heldBuf.cfg N) N Tryz.f27 [.one, .one] [.v, .v] [(false, .imm)] [⟨s24, .imm, x0⟩, ⟨(.int .i64), .imm, x1⟩] (fun r i => some (r, i)) = bindO (laws_heldBuf N x0 x1) fun r => some ([⟨(.int .i64), .imm, r⟩], []) := by
  show _ = bindF _ _
  conv => rhs; simp only [laws_heldBuf, bindF_ifB, bindF_bindO, bindF_pure, bindF_none, bindF_onSum]
  kernel_rfl
theorem laws_heldBuf.ok (N : Nat) : ConOk Tryz.prog 27 [.one, .one] (laws_heldBuf.con N) := ok2 (g := laws_heldBuf.cfg N) (N := N) (res := [(false, .imm)]) tys_ok (laws_heldBuf.cons N) mixed Tryz.func27 (laws_heldBuf.ls N) rfl (laws_heldBuf.b N)
theorem laws_heldBuf.det (N : Nat) : ConDet (laws_heldBuf.con N) := det2
def laws_heldRan.con (N : Nat) : Con := { modes := [.v, .v], ptrs := [false], fn := fn2 s29 .imm (.int .i64) .imm (laws_heldRan N) (fun r => [⟨(.int .i64), .imm, r⟩]) (fun r => []) }
def laws_heldRan.cfg (N : Nat) : Cfg := { ty := tys, keep := [8], flt := [], elm := elm0, live := [], ord := [], con := [((27, [.one, .one]), laws_heldBuf.con N)], loops := [], joins := [] }
theorem laws_heldRan.cons (N : Nat) : ConsOk Tryz.prog (laws_heldRan.cfg N).con := (consOk_cons (hb27) (laws_heldBuf.ok N) (laws_heldBuf.det N) consOk_nil)
theorem laws_heldRan.ls (N : Nat) : LoopsOk Tryz.prog (laws_heldRan.cfg N) (fnBody Tryz.f16) := loopsL (l := []) (by kernel_rfl) trivial
theorem laws_heldRan.b (N : Nat) (x0 : den s29) (x1 : den (.int .i64)) : body (laws_heldRan.cfg N) N Tryz.f16 [.one, .one] [.v, .v] [(false, .imm)] [⟨s29, .imm, x0⟩, ⟨(.int .i64), .imm, x1⟩] (fun r i => some (r, i)) = bindO (laws_heldRan N x0 x1) fun r => some ([⟨(.int .i64), .imm, r⟩], []) := by
  show _ = bindF _ _
  conv => rhs; simp only [laws_heldRan, bindF_ifB, bindF_bindO, bindF_pure, bindF_none, bindF_onSum]
  kernel_rfl
theorem laws_heldRan.ok (N : Nat) : ConOk Tryz.prog 16 [.one, .one] (laws_heldRan.con N) := ok2 (g := laws_heldRan.cfg N) (N := N) (res := [(false, .imm)]) tys_ok (laws_heldRan.cons N) mixed Tryz.func16 (laws_heldRan.ls N) rfl (laws_heldRan.b N)
theorem laws_heldRan.det (N : Nat) : ConDet (laws_heldRan.con N) := det2
end Go.AE.F
end
