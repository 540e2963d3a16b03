/- The printed functions are what the program comes to: contracts. -/
import Derived.Test.YthiefncabaphpaaXMachineStepsF8
import Derived.Test.YthiefncabaphpaaXMachineStepsT
noncomputable section
namespace Go.AE.F
open Go.AE Go.Proofs
set_option maxRecDepth 100000
def laws_szOpS.con (N : Nat) : Con := { modes := [.v, .v], ptrs := [false], fn := fn2 s22 .imm (.int .i64) .imm (laws_szOpS N) (fun r => [⟨(.int .i64), .imm, r⟩]) (fun r => []) }
def laws_szOpS.cfg (N : Nat) : Cfg := { ty := tys, keep := [], flt := [], elm := elm0, live := [], ord := [], con := [], loops := [], joins := [] }
theorem laws_szOpS.cons (N : Nat) : ConsOk Try.prog (laws_szOpS.cfg N).con := consOk_nil
theorem laws_szOpS.ls (N : Nat) : LoopsOk Try.prog (laws_szOpS.cfg N) (fnBody Try.f4) := loopsL (l := []) (by kernel_rfl) trivial
theorem laws_szOpS.b (N : Nat) (x0 : den s22) (x1 : den (.int .i64)) : body (laws_szOpS.cfg N) N Try.f4 [.one, .one] [.v, .v] [(false, .imm)] [⟨s22, .imm, x0⟩, ⟨(.int .i64), .imm, x1⟩] (fun r i => some (r, i)) = bindO (laws_szOpS N x0 x1) fun r => some ([⟨(.int .i64), .imm, r⟩], []) := by
  show _ = bindF _ _
  conv => rhs; simp only [laws_szOpS, bindF_ifB, bindF_bindO, bindF_pure, bindF_none, bindF_onSum]
  kernel_rfl
theorem laws_szOpS.ok (N : Nat) : ConOk Try.prog 4 [.one, .one] (laws_szOpS.con N) := ok2 (g := laws_szOpS.cfg N) (N := N) (res := [(false, .imm)]) tys_ok (laws_szOpS.cons N) mixed Try.func4 (laws_szOpS.ls N) rfl (laws_szOpS.b N)
theorem laws_szOpS.det (N : Nat) : ConDet (laws_szOpS.con N) := det2
def laws_szInt64S.con (N : Nat) : Con := { modes := [.v, .v], ptrs := [false], fn := fn2 s23 .imm (.int .i64) .imm (laws_szInt64S N) (fun r => [⟨(.int .i64), .imm, r⟩]) (fun r => []) }
def laws_szInt64S.cfg (N : Nat) : Cfg := { ty := tys, keep := [], flt := [], elm := elm0, live := [], ord := [], con := [], loops := [], joins := [] }
theorem laws_szInt64S.cons (N : Nat) : ConsOk Try.prog (laws_szInt64S.cfg N).con := consOk_nil
theorem laws_szInt64S.ls (N : Nat) : LoopsOk Try.prog (laws_szInt64S.cfg N) (fnBody Try.f12) := loopsL (l := []) (by kernel_rfl) trivial
theorem laws_szInt64S.b (N : Nat) (x0 : den s23) (x1 : den (.int .i64)) : body (laws_szInt64S.cfg N) N Try.f12 [.one, .one] [.v, .v] [(false, .imm)] [⟨s23, .imm, x0⟩, ⟨(.int .i64), .imm, x1⟩] (fun r i => some (r, i)) = bindO (laws_szInt64S N x0 x1) fun r => some ([⟨(.int .i64), .imm, r⟩], []) := by
  show _ = bindF _ _
  conv => rhs; simp only [laws_szInt64S, bindF_ifB, bindF_bindO, bindF_pure, bindF_none, bindF_onSum]
  kernel_rfl
theorem laws_szInt64S.ok (N : Nat) : ConOk Try.prog 12 [.one, .one] (laws_szInt64S.con N) := ok2 (g := laws_szInt64S.cfg N) (N := N) (res := [(false, .imm)]) tys_ok (laws_szInt64S.cons N) mixed Try.func12 (laws_szInt64S.ls N) rfl (laws_szInt64S.b N)
theorem laws_szInt64S.det (N : Nat) : ConDet (laws_szInt64S.con N) := det2
def laws_szBuf.con (N : Nat) : Con := { modes := [.v, .v], ptrs := [false], fn := fn2 s24 .imm (.int .i64) .imm (laws_szBuf N) (fun r => [⟨(.int .i64), .imm, r⟩]) (fun r => []) }
def laws_szBuf.cfg (N : Nat) : Cfg := { ty := tys, keep := [8], flt := [], elm := elm0, live := [], ord := [], con := [((12, [.one, .one]), laws_szInt64S.con N)], loops := [], joins := [] }
theorem laws_szBuf.cons (N : Nat) : ConsOk Try.prog (laws_szBuf.cfg N).con := (consOk_cons (hb12) (laws_szInt64S.ok N) (laws_szInt64S.det N) consOk_nil)
theorem laws_szBuf.ls (N : Nat) : LoopsOk Try.prog (laws_szBuf.cfg N) (fnBody Try.f5) := loopsL (l := []) (by kernel_rfl) trivial
theorem laws_szBuf.b (N : Nat) (x0 : den s24) (x1 : den (.int .i64)) : body (laws_szBuf.cfg N) N Try.f5 [.one, .one] [.v, .v] [(false, .imm)] [⟨s24, .imm, x0⟩, ⟨(.int .i64), .imm, x1⟩] (fun r i => some (r, i)) = bindO (laws_szBuf N x0 x1) fun r => some ([⟨(.int .i64), .imm, r⟩], []) := by
  show _ = bindF _ _
  conv => rhs; simp only [laws_szBuf, bindF_ifB, bindF_bindO, bindF_pure, bindF_none, bindF_onSum]
  kernel_rfl
theorem laws_szBuf.ok (N : Nat) : ConOk Try.prog 5 [.one, .one] (laws_szBuf.con N) := ok2 (g := laws_szBuf.cfg N) (N := N) (res := [(false, .imm)]) tys_ok (laws_szBuf.cons N) mixed Try.func5 (laws_szBuf.ls N) rfl (laws_szBuf.b N)
theorem laws_szBuf.det (N : Nat) : ConDet (laws_szBuf.con N) := det2
def laws_toOp.con (N : Nat) : Con := { modes := [.v], ptrs := [false], fn := fn1 s43 .imm (laws_toOp N) (fun r => [⟨s43, .imm, r⟩]) (fun r => []) }
def laws_toOp.cfg (N : Nat) : Cfg := { ty := tys, keep := [], flt := [], elm := elm0, live := [], ord := [], con := [], loops := [], joins := [] }
theorem laws_toOp.cons (N : Nat) : ConsOk Try.prog (laws_toOp.cfg N).con := consOk_nil
theorem laws_toOp.ls (N : Nat) : LoopsOk Try.prog (laws_toOp.cfg N) (fnBody Try.f16) := loopsL (l := []) (by kernel_rfl) trivial
theorem laws_toOp.b (N : Nat) (x0 : den s43) : body (laws_toOp.cfg N) N Try.f16 [.one] [.v] [(false, .imm)] [⟨s43, .imm, x0⟩] (fun r i => some (r, i)) = bindO (laws_toOp N x0) fun r => some ([⟨s43, .imm, r⟩], []) := by
  show _ = bindF _ _
  conv => rhs; simp only [laws_toOp, bindF_ifB, bindF_bindO, bindF_pure, bindF_none, bindF_onSum]
  kernel_rfl
theorem laws_toOp.ok (N : Nat) : ConOk Try.prog 16 [.one] (laws_toOp.con N) := ok1 (g := laws_toOp.cfg N) (N := N) (res := [(false, .imm)]) tys_ok (laws_toOp.cons N) mixed Try.func16 (laws_toOp.ls N) rfl (laws_toOp.b N)
theorem laws_toOp.det (N : Nat) : ConDet (laws_toOp.con N) := det1
def laws_toOpS.sk3 : Skel := ⟨.pv s22 :: (dd 2 (.ov 50 [] :: (.pv (.int .i64) :: (dd 18 [])))), [⟨50, s29, (.own .imm), false, false⟩]⟩
def laws_toOpS.xs3 : List XS := [⟨.exit 0, [3], ⟨dd 3 (.ov 50 [] :: (dd 19 [])), [⟨50, s29, (.own .imm), false, false⟩]⟩⟩]
def laws_toOpS.con (N : Nat) : Con := { modes := [.v], ptrs := [false], fn := fn1 s22 .imm (laws_toOpS N) (fun r => [⟨s29, (.own .imm), r⟩]) (fun r => []) }
def laws_toOpS.cfg (N : Nat) : Cfg := { ty := tys, keep := [20], flt := [], elm := elm0, live := [(3, [0, 3, 4])], ord := [], con := [((16, [.one]), laws_toOp.con N)], loops := [(3, loopCon N laws_toOpS.sk3 laws_toOpS.xs3 (fun {R} => laws_toOpS.l3 (R := R) N))], joins := [] }
theorem laws_toOpS.cons (N : Nat) : ConsOk Try.prog (laws_toOpS.cfg N).con := (consOk_cons (hb16) (laws_toOp.ok N) (laws_toOp.det N) consOk_nil)
theorem laws_toOpS.h3 {R : Type} (N : Nat) (d : laws_toOpS.sk3.D) (kn : laws_toOpS.sk3.D → Option R) (kx : XD laws_toOpS.xs3 → Option R) : roundK (laws_toOpS.cfg N) N (nthLoop (fnBody Try.f7) 0) laws_toOpS.sk3 laws_toOpS.xs3 d kn kx = laws_toOpS.l3 N d kn kx := by kernel_rfl
theorem laws_toOpS.i3 (N : Nat) : LoopsOk Try.prog (laws_toOpS.cfg N) (nthLoop (fnBody Try.f7) 0) := loopsL (l := []) (by kernel_rfl) trivial
theorem laws_toOpS.o3 (N : Nat) : LoopOk Try.prog (nthLoop (fnBody Try.f7) 0) (loopCon N laws_toOpS.sk3 laws_toOpS.xs3 (fun {R} => laws_toOpS.l3 (R := R) N)) := loop_ok (g := laws_toOpS.cfg N) tys_ok (laws_toOpS.cons N) mixed (laws_toOpS.i3 N) (fun d kn kx => laws_toOpS.h3 N d kn kx)
theorem laws_toOpS.ls (N : Nat) : LoopsOk Try.prog (laws_toOpS.cfg N) (fnBody Try.f7) := loopsL (l := [nthLoop (fnBody Try.f7) 0]) (by kernel_rfl) ⟨loopOne (L0 := loopCon N laws_toOpS.sk3 laws_toOpS.xs3 (fun {R} => laws_toOpS.l3 (R := R) N)) (id := 3) (by kernel_rfl) (by kernel_rfl) (laws_toOpS.o3 N), trivial⟩
theorem laws_toOpS.q3 {R R' : Type} {N n : Nat} {d} {k} {g : R → Option R'} : bindF (loopP (laws_toOpS.l3 N) n d k) g = loopP (laws_toOpS.l3 N) n d fun e => bindF (k e) g := bindF_loopP (fun d kn kx => by simp only [laws_toOpS.l3, bindF_ifB, bindF_bindO, bindF_pure, bindF_none, bindF_onSum]) n d k
theorem laws_toOpS.b (N : Nat) (x0 : den s22) : body (laws_toOpS.cfg N) N Try.f7 [.one] [.v] [(false, (.own .imm))] [⟨s22, .imm, x0⟩] (fun r i => some (r, i)) = bindO (laws_toOpS N x0) fun r => some ([⟨s29, (.own .imm), r⟩], []) := by
  show _ = bindF _ _
  conv => rhs; simp only [laws_toOpS, bindF_ifB, bindF_bindO, bindF_pure, bindF_none, bindF_onSum, laws_toOpS.q3]
  kernel_rfl
theorem laws_toOpS.ok (N : Nat) : ConOk Try.prog 7 [.one] (laws_toOpS.con N) := ok1 (g := laws_toOpS.cfg N) (N := N) (res := [(false, (.own .imm))]) tys_ok (laws_toOpS.cons N) mixed Try.func7 (laws_toOpS.ls N) rfl (laws_toOpS.b N)
theorem laws_toOpS.det (N : Nat) : ConDet (laws_toOpS.con N) := det1
def laws_toInt64S.sk3 : Skel := ⟨.pv s23 :: (dd 2 (.ov 50 [] :: (.pv (.int .i64) :: (dd 17 [])))), [⟨50, s23, (.own .imm), false, false⟩]⟩
def laws_toInt64S.xs3 : List XS := [⟨.exit 0, [3], ⟨dd 3 (.ov 50 [] :: (dd 18 [])), [⟨50, s23, (.own .imm), false, false⟩]⟩⟩]
def laws_toInt64S.con (N : Nat) : Con := { modes := [.v], ptrs := [false], fn := fn1 s23 .imm (laws_toInt64S N) (fun r => [⟨s23, (.own .imm), r⟩]) (fun r => []) }
def laws_toInt64S.cfg (N : Nat) : Cfg := { ty := tys, keep := [], flt := [], elm := elm0, live := [(3, [0, 3, 4])], ord := [], con := [], loops := [(3, loopCon N laws_toInt64S.sk3 laws_toInt64S.xs3 (fun {R} => laws_toInt64S.l3 (R := R) N))], joins := [] }
theorem laws_toInt64S.cons (N : Nat) : ConsOk Try.prog (laws_toInt64S.cfg N).con := consOk_nil
theorem laws_toInt64S.h3 {R : Type} (N : Nat) (d : laws_toInt64S.sk3.D) (kn : laws_toInt64S.sk3.D → Option R) (kx : XD laws_toInt64S.xs3 → Option R) : roundK (laws_toInt64S.cfg N) N (nthLoop (fnBody Try.f17) 0) laws_toInt64S.sk3 laws_toInt64S.xs3 d kn kx = laws_toInt64S.l3 N d kn kx := by kernel_rfl
theorem laws_toInt64S.i3 (N : Nat) : LoopsOk Try.prog (laws_toInt64S.cfg N) (nthLoop (fnBody Try.f17) 0) := loopsL (l := []) (by kernel_rfl) trivial
theorem laws_toInt64S.o3 (N : Nat) : LoopOk Try.prog (nthLoop (fnBody Try.f17) 0) (loopCon N laws_toInt64S.sk3 laws_toInt64S.xs3 (fun {R} => laws_toInt64S.l3 (R := R) N)) := loop_ok (g := laws_toInt64S.cfg N) tys_ok (laws_toInt64S.cons N) mixed (laws_toInt64S.i3 N) (fun d kn kx => laws_toInt64S.h3 N d kn kx)
theorem laws_toInt64S.ls (N : Nat) : LoopsOk Try.prog (laws_toInt64S.cfg N) (fnBody Try.f17) := loopsL (l := [nthLoop (fnBody Try.f17) 0]) (by kernel_rfl) ⟨loopOne (L0 := loopCon N laws_toInt64S.sk3 laws_toInt64S.xs3 (fun {R} => laws_toInt64S.l3 (R := R) N)) (id := 3) (by kernel_rfl) (by kernel_rfl) (laws_toInt64S.o3 N), trivial⟩
theorem laws_toInt64S.q3 {R R' : Type} {N n : Nat} {d} {k} {g : R → Option R'} : bindF (loopP (laws_toInt64S.l3 N) n d k) g = loopP (laws_toInt64S.l3 N) n d fun e => bindF (k e) g := bindF_loopP (fun d kn kx => by simp only [laws_toInt64S.l3, bindF_ifB, bindF_bindO, bindF_pure, bindF_none, bindF_onSum]) n d k
theorem laws_toInt64S.b (N : Nat) (x0 : den s23) : body (laws_toInt64S.cfg N) N Try.f17 [.one] [.v] [(false, (.own .imm))] [⟨s23, .imm, x0⟩] (fun r i => some (r, i)) = bindO (laws_toInt64S N x0) fun r => some ([⟨s23, (.own .imm), r⟩], []) := by
  show _ = bindF _ _
  conv => rhs; simp only [laws_toInt64S, bindF_ifB, bindF_bindO, bindF_pure, bindF_none, bindF_onSum, laws_toInt64S.q3]
  kernel_rfl
theorem laws_toInt64S.ok (N : Nat) : ConOk Try.prog 17 [.one] (laws_toInt64S.con N) := ok1 (g := laws_toInt64S.cfg N) (N := N) (res := [(false, (.own .imm))]) tys_ok (laws_toInt64S.cons N) mixed Try.func17 (laws_toInt64S.ls N) rfl (laws_toInt64S.b N)
theorem laws_toInt64S.det (N : Nat) : ConDet (laws_toInt64S.con N) := det1
def laws_toBuf.con (N : Nat) : Con := { modes := [.v], ptrs := [false], fn := fn1 s24 .imm (laws_toBuf N) (fun r => [⟨s24, (.pr (.own .imm) .imm), r⟩]) (fun r => []) }
def laws_toBuf.cfg (N : Nat) : Cfg := { ty := tys, keep := [6], flt := [], elm := elm0, live := [], ord := [], con := [((17, [.one]), laws_toInt64S.con N)], loops := [], joins := [] }
theorem laws_toBuf.cons (N : Nat) : ConsOk Try.prog (laws_toBuf.cfg N).con := (consOk_cons (hb17) (laws_toInt64S.ok N) (laws_toInt64S.det N) consOk_nil)
theorem laws_toBuf.ls (N : Nat) : LoopsOk Try.prog (laws_toBuf.cfg N) (fnBody Try.f8) := loopsL (l := []) (by kernel_rfl) trivial
theorem laws_toBuf.b (N : Nat) (x0 : den s24) : body (laws_toBuf.cfg N) N Try.f8 [.one] [.v] [(false, (.pr (.own .imm) .imm))] [⟨s24, .imm, x0⟩] (fun r i => some (r, i)) = bindO (laws_toBuf N x0) fun r => some ([⟨s24, (.pr (.own .imm) .imm), r⟩], []) := by
  show _ = bindF _ _
  conv => rhs; simp only [laws_toBuf, bindF_ifB, bindF_bindO, bindF_pure, bindF_none, bindF_onSum]
  kernel_rfl
theorem laws_toBuf.ok (N : Nat) : ConOk Try.prog 8 [.one] (laws_toBuf.con N) := ok1 (g := laws_toBuf.cfg N) (N := N) (res := [(false, (.pr (.own .imm) .imm))]) tys_ok (laws_toBuf.cons N) mixed Try.func8 (laws_toBuf.ls N) rfl (laws_toBuf.b N)
theorem laws_toBuf.det (N : Nat) : ConDet (laws_toBuf.con N) := det1
def spec_l13Op.con (N : Nat) : Con := { modes := [.v, .v], ptrs := [false], fn := fn2 s43 .imm (.int .i64) .imm (spec_l13Op N) (fun r => [⟨.bool, .imm, r⟩]) (fun r => []) }
def spec_l13Op.cfg (N : Nat) : Cfg := { ty := tys, keep := [], flt := [], elm := elm0, live := [], ord := [], con := [], loops := [], joins := [] }
theorem spec_l13Op.cons (N : Nat) : ConsOk Try.prog (spec_l13Op.cfg N).con := consOk_nil
theorem spec_l13Op.ls (N : Nat) : LoopsOk Try.prog (spec_l13Op.cfg N) (fnBody Try.f21) := loopsL (l := []) (by kernel_rfl) trivial
theorem spec_l13Op.b (N : Nat) (x0 : den s43) (x1 : den (.int .i64)) : body (spec_l13Op.cfg N) N Try.f21 [.one, .one] [.v, .v] [(false, .imm)] [⟨s43, .imm, x0⟩, ⟨(.int .i64), .imm, x1⟩] (fun r i => some (r, i)) = bindO (spec_l13Op N x0 x1) fun r => some ([⟨.bool, .imm, r⟩], []) := by
  show _ = bindF _ _
  conv => rhs; simp only [spec_l13Op, bindF_ifB, bindF_bindO, bindF_pure, bindF_none, bindF_onSum]
  kernel_rfl
theorem spec_l13Op.ok (N : Nat) : ConOk Try.prog 21 [.one, .one] (spec_l13Op.con N) := ok2 (g := spec_l13Op.cfg N) (N := N) (res := [(false, .imm)]) tys_ok (spec_l13Op.cons N) mixed Try.func21 (spec_l13Op.ls N) rfl (spec_l13Op.b N)
theorem spec_l13Op.det (N : Nat) : ConDet (spec_l13Op.con N) := det2
def spec_l13Takes.con (N : Nat) : Con := { modes := [.v], ptrs := [false, false], fn := fn1 (.int .i64) .imm (spec_l13Takes N) (fun r => [⟨(.int .i64), .imm, r.1⟩, ⟨(.int .i64), .imm, r.2⟩]) (fun r => []) }
def spec_l13Takes.cfg (N : Nat) : Cfg := { ty := tys, keep := [], flt := [], elm := elm0, live := [], ord := [], con := [], loops := [], joins := [] }
theorem spec_l13Takes.cons (N : Nat) : ConsOk Try.prog (spec_l13Takes.cfg N).con := consOk_nil
theorem spec_l13Takes.ls (N : Nat) : LoopsOk Try.prog (spec_l13Takes.cfg N) (fnBody Try.f26) := loopsL (l := []) (by kernel_rfl) trivial
theorem spec_l13Takes.b (N : Nat) (x0 : den (.int .i64)) : body (spec_l13Takes.cfg N) N Try.f26 [.one] [.v] [(false, .imm), (false, .imm)] [⟨(.int .i64), .imm, x0⟩] (fun r i => some (r, i)) = bindO (spec_l13Takes N x0) fun r => some ([⟨(.int .i64), .imm, r.1⟩, ⟨(.int .i64), .imm, r.2⟩], []) := by
  show _ = bindF _ _
  conv => rhs; simp only [spec_l13Takes, bindF_ifB, bindF_bindO, bindF_pure, bindF_none, bindF_onSum]
  kernel_rfl
theorem spec_l13Takes.ok (N : Nat) : ConOk Try.prog 26 [.one] (spec_l13Takes.con N) := ok1 (g := spec_l13Takes.cfg N) (N := N) (res := [(false, .imm), (false, .imm)]) tys_ok (spec_l13Takes.cons N) mixed Try.func26 (spec_l13Takes.ls N) rfl (spec_l13Takes.b N)
theorem spec_l13Takes.det (N : Nat) : ConDet (spec_l13Takes.con N) := det1
def spec_l13Depths.sk4 : Skel := ⟨.pv s29 :: (dd 3 (.pv (.int .i64) :: (.ov 50 [] :: (.pv (.int .i64) :: (dd 138 []))))), [⟨50, s23, (.own .imm), false, false⟩]⟩
def spec_l13Depths.xs4 : List XS := [⟨.exit 0, [0, 4, 5, 63, 64, 65, 66], ⟨.pv s29 :: (dd 3 (.pv (.int .i64) :: (.ov 50 [] :: (dd 139 [])))), [⟨50, s23, (.own .imm), false, false⟩]⟩⟩]
def spec_l13Depths.sk9 : Skel := ⟨.pv s29 :: (dd 3 (.pv (.int .i64) :: (.ov 50 [] :: (dd 1 (.ov 51 [] :: (dd 137 [])))))), [⟨50, s23, (.own .imm), false, false⟩, ⟨51, s23, (.own .imm), false, false⟩]⟩
def spec_l13Depths.xs9 : List XS := [⟨.exit 2, [4, 5], ⟨dd 4 (.pv (.int .i64) :: (.ov 50 [] :: (dd 139 []))), [⟨50, s23, (.own .imm), false, false⟩]⟩⟩, ⟨.ret, [2, 3], ⟨dd 2 (.ov 50 [] :: (.pv .bool :: (dd 141 []))), [⟨50, s23, (.own .imm), false, false⟩]⟩⟩]
def spec_l13Depths.sk24 : Skel := ⟨.pv s29 :: (dd 3 (.pv (.int .i64) :: (.ov 50 [] :: (dd 1 (.ov 51 [] :: (dd 3 (.pv (.int .i64) :: (.ov 52 [] :: (.pv (.int .i64) :: (dd 131 [])))))))))), [⟨50, s23, (.own .imm), false, false⟩, ⟨51, s23, (.own .imm), false, false⟩, ⟨52, s23, (.own .imm), false, false⟩]⟩
def spec_l13Depths.xs24 : List XS := [⟨.exit 4, [0, 4, 5, 7, 63, 64, 65, 66], ⟨.pv s29 :: (dd 3 (.pv (.int .i64) :: (.ov 50 [] :: (dd 1 (.ov 51 [] :: (dd 137 [])))))), [⟨50, s23, (.own .imm), false, false⟩, ⟨51, s23, (.own .imm), false, false⟩]⟩⟩, ⟨.ret, [2, 3], ⟨dd 2 (.ov 50 [] :: (.pv .bool :: (dd 141 []))), [⟨50, s23, (.own .imm), false, false⟩]⟩⟩]
def spec_l13Depths.con (N : Nat) : Con := { modes := [.v], ptrs := [false, false], fn := fn1 s29 .imm (spec_l13Depths N) (fun r => [⟨s23, (.own .imm), r.1⟩, ⟨.bool, .imm, r.2⟩]) (fun r => []) }
def spec_l13Depths.cfg (N : Nat) : Cfg := { ty := tys, keep := [51], flt := [], elm := elm0, live := [(24, [0, 4, 5, 7, 11, 12, 13, 63, 64, 65, 66]), (9, [0, 4, 5, 7, 63, 64, 65, 66]), (4, [0, 4, 5, 6, 63, 64, 65, 66])], ord := [(31, [0, 1, 2, 3, 4, 5, 6, 7])], con := [((26, [.one]), spec_l13Takes.con N)], loops := [(4, loopCon N spec_l13Depths.sk4 spec_l13Depths.xs4 (fun {R} => spec_l13Depths.l4 (R := R) N)), (9, loopCon N spec_l13Depths.sk9 spec_l13Depths.xs9 (fun {R} => spec_l13Depths.l9 (R := R) N)), (24, loopCon N spec_l13Depths.sk24 spec_l13Depths.xs24 (fun {R} => spec_l13Depths.l24 (R := R) N))], joins := [(25, [⟨.normal, [0, 4, 5, 7, 11, 12, 13, 63, 64, 65, 66], ⟨.pv s29 :: (dd 3 (.pv (.int .i64) :: (.ov 50 [] :: (dd 1 (.ov 51 [] :: (dd 3 (.pv (.int .i64) :: (.ov 52 [] :: (.pv (.int .i64) :: (dd 131 [])))))))))), [⟨50, s23, (.own .imm), false, false⟩, ⟨51, s23, (.own .imm), false, false⟩, ⟨52, s23, (.own .imm), false, false⟩]⟩⟩, ⟨.ret, [2, 3], ⟨dd 2 (.ov 50 [] :: (.pv .bool :: (dd 141 []))), [⟨50, s23, (.own .imm), false, false⟩]⟩⟩])] }
theorem spec_l13Depths.cons (N : Nat) : ConsOk Try.prog (spec_l13Depths.cfg N).con := (consOk_cons (hb26) (spec_l13Takes.ok N) (spec_l13Takes.det N) consOk_nil)
theorem spec_l13Depths.h24 {R : Type} (N : Nat) (d : spec_l13Depths.sk24.D) (kn : spec_l13Depths.sk24.D → Option R) (kx : XD spec_l13Depths.xs24 → Option R) : roundK (spec_l13Depths.cfg N) N (nthLoop (fnBody Try.f22) 2) spec_l13Depths.sk24 spec_l13Depths.xs24 d kn kx = spec_l13Depths.l24 N d kn kx := by kernel_rfl
theorem spec_l13Depths.i24 (N : Nat) : LoopsOk Try.prog (spec_l13Depths.cfg N) (nthLoop (fnBody Try.f22) 2) := loopsL (l := []) (by kernel_rfl) trivial
theorem spec_l13Depths.o24 (N : Nat) : LoopOk Try.prog (nthLoop (fnBody Try.f22) 2) (loopCon N spec_l13Depths.sk24 spec_l13Depths.xs24 (fun {R} => spec_l13Depths.l24 (R := R) N)) := loop_ok (g := spec_l13Depths.cfg N) tys_ok (spec_l13Depths.cons N) mixed (spec_l13Depths.i24 N) (fun d kn kx => spec_l13Depths.h24 N d kn kx)
theorem spec_l13Depths.h9 {R : Type} (N : Nat) (d : spec_l13Depths.sk9.D) (kn : spec_l13Depths.sk9.D → Option R) (kx : XD spec_l13Depths.xs9 → Option R) : roundK (spec_l13Depths.cfg N) N (nthLoop (fnBody Try.f22) 1) spec_l13Depths.sk9 spec_l13Depths.xs9 d kn kx = spec_l13Depths.l9 N d kn kx := by kernel_rfl
theorem spec_l13Depths.i9 (N : Nat) : LoopsOk Try.prog (spec_l13Depths.cfg N) (nthLoop (fnBody Try.f22) 1) := loopsL (l := [nthLoop (fnBody Try.f22) 2]) (by kernel_rfl) ⟨loopOne (L0 := loopCon N spec_l13Depths.sk24 spec_l13Depths.xs24 (fun {R} => spec_l13Depths.l24 (R := R) N)) (id := 24) (by kernel_rfl) (by kernel_rfl) (spec_l13Depths.o24 N), trivial⟩
theorem spec_l13Depths.o9 (N : Nat) : LoopOk Try.prog (nthLoop (fnBody Try.f22) 1) (loopCon N spec_l13Depths.sk9 spec_l13Depths.xs9 (fun {R} => spec_l13Depths.l9 (R := R) N)) := loop_ok (g := spec_l13Depths.cfg N) tys_ok (spec_l13Depths.cons N) mixed (spec_l13Depths.i9 N) (fun d kn kx => spec_l13Depths.h9 N d kn kx)
theorem spec_l13Depths.h4 {R : Type} (N : Nat) (d : spec_l13Depths.sk4.D) (kn : spec_l13Depths.sk4.D → Option R) (kx : XD spec_l13Depths.xs4 → Option R) : roundK (spec_l13Depths.cfg N) N (nthLoop (fnBody Try.f22) 0) spec_l13Depths.sk4 spec_l13Depths.xs4 d kn kx = spec_l13Depths.l4 N d kn kx := by kernel_rfl
theorem spec_l13Depths.i4 (N : Nat) : LoopsOk Try.prog (spec_l13Depths.cfg N) (nthLoop (fnBody Try.f22) 0) := loopsL (l := []) (by kernel_rfl) trivial
theorem spec_l13Depths.o4 (N : Nat) : LoopOk Try.prog (nthLoop (fnBody Try.f22) 0) (loopCon N spec_l13Depths.sk4 spec_l13Depths.xs4 (fun {R} => spec_l13Depths.l4 (R := R) N)) := loop_ok (g := spec_l13Depths.cfg N) tys_ok (spec_l13Depths.cons N) mixed (spec_l13Depths.i4 N) (fun d kn kx => spec_l13Depths.h4 N d kn kx)
theorem spec_l13Depths.ls (N : Nat) : LoopsOk Try.prog (spec_l13Depths.cfg N) (fnBody Try.f22) := loopsL (l := [nthLoop (fnBody Try.f22) 0, nthLoop (fnBody Try.f22) 1, nthLoop (fnBody Try.f22) 2]) (by kernel_rfl) ⟨loopOne (L0 := loopCon N spec_l13Depths.sk4 spec_l13Depths.xs4 (fun {R} => spec_l13Depths.l4 (R := R) N)) (id := 4) (by kernel_rfl) (by kernel_rfl) (spec_l13Depths.o4 N), ⟨loopOne (L0 := loopCon N spec_l13Depths.sk9 spec_l13Depths.xs9 (fun {R} => spec_l13Depths.l9 (R := R) N)) (id := 9) (by kernel_rfl) (by kernel_rfl) (spec_l13Depths.o9 N), ⟨loopOne (L0 := loopCon N spec_l13Depths.sk24 spec_l13Depths.xs24 (fun {R} => spec_l13Depths.l24 (R := R) N)) (id := 24) (by kernel_rfl) (by kernel_rfl) (spec_l13Depths.o24 N), trivial⟩⟩⟩
theorem spec_l13Depths.q24 {R R' : Type} {N n : Nat} {d} {k} {g : R → Option R'} : bindF (loopP (spec_l13Depths.l24 N) n d k) g = loopP (spec_l13Depths.l24 N) n d fun e => bindF (k e) g := bindF_loopP (fun d kn kx => by simp only [spec_l13Depths.l24, bindF_ifB, bindF_bindO, bindF_pure, bindF_none, bindF_onSum]) n d k
theorem spec_l13Depths.q9 {R R' : Type} {N n : Nat} {d} {k} {g : R → Option R'} : bindF (loopP (spec_l13Depths.l9 N) n d k) g = loopP (spec_l13Depths.l9 N) n d fun e => bindF (k e) g := bindF_loopP (fun d kn kx => by simp only [spec_l13Depths.l9, bindF_ifB, bindF_bindO, bindF_pure, bindF_none, bindF_onSum, spec_l13Depths.q24]) n d k
theorem spec_l13Depths.q4 {R R' : Type} {N n : Nat} {d} {k} {g : R → Option R'} : bindF (loopP (spec_l13Depths.l4 N) n d k) g = loopP (spec_l13Depths.l4 N) n d fun e => bindF (k e) g := bindF_loopP (fun d kn kx => by simp only [spec_l13Depths.l4, bindF_ifB, bindF_bindO, bindF_pure, bindF_none, bindF_onSum]) n d k
theorem spec_l13Depths.b (N : Nat) (x0 : den s29) : body (spec_l13Depths.cfg N) N Try.f22 [.one] [.v] [(false, (.own .imm)), (false, .imm)] [⟨s29, .imm, x0⟩] (fun r i => some (r, i)) = bindO (spec_l13Depths N x0) fun r => some ([⟨s23, (.own .imm), r.1⟩, ⟨.bool, .imm, r.2⟩], []) := by
  show _ = bindF _ _
  conv => rhs; simp only [spec_l13Depths, bindF_ifB, bindF_bindO, bindF_pure, bindF_none, bindF_onSum, spec_l13Depths.q4, spec_l13Depths.q9, spec_l13Depths.q24]
  kernel_rfl
theorem spec_l13Depths.ok (N : Nat) : ConOk Try.prog 22 [.one] (spec_l13Depths.con N) := ok1 (g := spec_l13Depths.cfg N) (N := N) (res := [(false, (.own .imm)), (false, .imm)]) tys_ok (spec_l13Depths.cons N) mixed Try.func22 (spec_l13Depths.ls N) rfl (spec_l13Depths.b N)
theorem spec_l13Depths.det (N : Nat) : ConDet (spec_l13Depths.con N) := det1
def spec_CodeRight.sk4 : Skel := ⟨.pv s29 :: (dd 2 (.pv (.int .i64) :: (dd 25 []))), []⟩
def spec_CodeRight.xs4 : List XS := [⟨.exit 0, [0], ⟨.pv s29 :: (dd 28 []), []⟩⟩, ⟨.ret, [2], ⟨dd 2 (.pv .bool :: (dd 26 [])), []⟩⟩]
def spec_CodeRight.con (N : Nat) : Con := { modes := [.v], ptrs := [false], fn := fn1 s29 .imm (spec_CodeRight N) (fun r => [⟨.bool, .imm, r⟩]) (fun r => []) }
def spec_CodeRight.cfg (N : Nat) : Cfg := { ty := tys, keep := [21, 25], flt := [], elm := elm0, live := [(4, [0, 3])], ord := [], con := [((21, [.one, .one]), spec_l13Op.con N), ((22, [.one]), spec_l13Depths.con N)], loops := [(4, loopCon N spec_CodeRight.sk4 spec_CodeRight.xs4 (fun {R} => spec_CodeRight.l4 (R := R) N))], joins := [] }
theorem spec_CodeRight.cons (N : Nat) : ConsOk Try.prog (spec_CodeRight.cfg N).con := (consOk_cons (hb21) (spec_l13Op.ok N) (spec_l13Op.det N) (consOk_cons (hb22) (spec_l13Depths.ok N) (spec_l13Depths.det N) consOk_nil))
theorem spec_CodeRight.h4 {R : Type} (N : Nat) (d : spec_CodeRight.sk4.D) (kn : spec_CodeRight.sk4.D → Option R) (kx : XD spec_CodeRight.xs4 → Option R) : roundK (spec_CodeRight.cfg N) N (nthLoop (fnBody Try.f13) 0) spec_CodeRight.sk4 spec_CodeRight.xs4 d kn kx = spec_CodeRight.l4 N d kn kx := by kernel_rfl
theorem spec_CodeRight.i4 (N : Nat) : LoopsOk Try.prog (spec_CodeRight.cfg N) (nthLoop (fnBody Try.f13) 0) := loopsL (l := []) (by kernel_rfl) trivial
theorem spec_CodeRight.o4 (N : Nat) : LoopOk Try.prog (nthLoop (fnBody Try.f13) 0) (loopCon N spec_CodeRight.sk4 spec_CodeRight.xs4 (fun {R} => spec_CodeRight.l4 (R := R) N)) := loop_ok (g := spec_CodeRight.cfg N) tys_ok (spec_CodeRight.cons N) mixed (spec_CodeRight.i4 N) (fun d kn kx => spec_CodeRight.h4 N d kn kx)
theorem spec_CodeRight.ls (N : Nat) : LoopsOk Try.prog (spec_CodeRight.cfg N) (fnBody Try.f13) := loopsL (l := [nthLoop (fnBody Try.f13) 0]) (by kernel_rfl) ⟨loopOne (L0 := loopCon N spec_CodeRight.sk4 spec_CodeRight.xs4 (fun {R} => spec_CodeRight.l4 (R := R) N)) (id := 4) (by kernel_rfl) (by kernel_rfl) (spec_CodeRight.o4 N), trivial⟩
theorem spec_CodeRight.q4 {R R' : Type} {N n : Nat} {d} {k} {g : R → Option R'} : bindF (loopP (spec_CodeRight.l4 N) n d k) g = loopP (spec_CodeRight.l4 N) n d fun e => bindF (k e) g := bindF_loopP (fun d kn kx => by simp only [spec_CodeRight.l4, bindF_ifB, bindF_bindO, bindF_pure, bindF_none, bindF_onSum]) n d k
theorem spec_CodeRight.b (N : Nat) (x0 : den s29) : body (spec_CodeRight.cfg N) N Try.f13 [.one] [.v] [(false, .imm)] [⟨s29, .imm, x0⟩] (fun r i => some (r, i)) = bindO (spec_CodeRight N x0) fun r => some ([⟨.bool, .imm, r⟩], []) := by
  show _ = bindF _ _
  conv => rhs; simp only [spec_CodeRight, bindF_ifB, bindF_bindO, bindF_pure, bindF_none, bindF_onSum, spec_CodeRight.q4]
  kernel_rfl
theorem spec_CodeRight.ok (N : Nat) : ConOk Try.prog 13 [.one] (spec_CodeRight.con N) := ok1 (g := spec_CodeRight.cfg N) (N := N) (res := [(false, .imm)]) tys_ok (spec_CodeRight.cons N) mixed Try.func13 (spec_CodeRight.ls N) rfl (spec_CodeRight.b N)
theorem spec_CodeRight.det (N : Nat) : ConDet (spec_CodeRight.con N) := det1
def spec_l01Point.con (N : Nat) : Con := { modes := [.v], ptrs := [false], fn := fn1 (.int .i64) .imm (spec_l01Point N) (fun r => [⟨.bool, .imm, r⟩]) (fun r => []) }
def spec_l01Point.cfg (N : Nat) : Cfg := { ty := tys, keep := [], flt := [], elm := elm0, live := [], ord := [], con := [], loops := [], joins := [] }
theorem spec_l01Point.cons (N : Nat) : ConsOk Try.prog (spec_l01Point.cfg N).con := consOk_nil
theorem spec_l01Point.ls (N : Nat) : LoopsOk Try.prog (spec_l01Point.cfg N) (fnBody Try.f38) := loopsL (l := []) (by kernel_rfl) trivial
theorem spec_l01Point.b (N : Nat) (x0 : den (.int .i64)) : body (spec_l01Point.cfg N) N Try.f38 [.one] [.v] [(false, .imm)] [⟨(.int .i64), .imm, x0⟩] (fun r i => some (r, i)) = bindO (spec_l01Point N x0) fun r => some ([⟨.bool, .imm, r⟩], []) := by
  show _ = bindF _ _
  conv => rhs; simp only [spec_l01Point, bindF_ifB, bindF_bindO, bindF_pure, bindF_none, bindF_onSum]
  kernel_rfl
theorem spec_l01Point.ok (N : Nat) : ConOk Try.prog 38 [.one] (spec_l01Point.con N) := ok1 (g := spec_l01Point.cfg N) (N := N) (res := [(false, .imm)]) tys_ok (spec_l01Point.cons N) mixed Try.func38 (spec_l01Point.ls N) rfl (spec_l01Point.b N)
theorem spec_l01Point.det (N : Nat) : ConDet (spec_l01Point.con N) := det1
end Go.AE.F
end
