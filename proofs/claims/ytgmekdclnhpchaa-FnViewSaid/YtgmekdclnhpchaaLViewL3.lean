/- The printed functions are what the program comes to: contracts. -/
import Derived.Test.YtgmekdclnhpchaaLViewL2
noncomputable section
namespace Go.AE.F
open Go.AE Go.Proofs
set_option maxRecDepth 100000
def zBI.con (N : Nat) : Con := { modes := [.v], ptrs := [false], fn := fn1 s24 .imm (zBI N) (fun r => [⟨.bool, .imm, r⟩]) (fun r => []) }
def zBI.cfg (N : Nat) : Cfg := { ty := tys, keep := [5, 9, 14], flt := [], elm := elm0, live := [], ord := [], con := [((46, [.one]), zAW.con N), ((32, [.one, .one]), zAT.con N)], loops := [], joins := [] }
theorem zBI.cons (N : Nat) : ConsOk Try.prog (zBI.cfg N).con := (consOk_cons (hb46) (zAW.ok N) (zAW.det N) (consOk_cons (hb32) (zAT.ok N) (zAT.det N) consOk_nil))
theorem zBI.ls (N : Nat) : LoopsOk Try.prog (zBI.cfg N) (fnBody Try.f47) := loopsL (l := []) (by kernel_rfl) trivial
theorem zBI.b (N : Nat) (x0 : den s24) : body (zBI.cfg N) N Try.f47 [.one] [.v] [(false, .imm)] [⟨s24, .imm, x0⟩] (fun r i => some (r, i)) = bindO (zBI N x0) fun r => some ([⟨.bool, .imm, r⟩], []) := by
  show _ = bindF _ _
  conv => rhs; simp only [zBI, bindF_ifB, bindF_bindO, bindF_pure, bindF_none, bindF_onSum]
  kernel_rfl
theorem zBI.ok (N : Nat) : ConOk Try.prog 47 [.one] (zBI.con N) := ok1 (g := zBI.cfg N) (N := N) (res := [(false, .imm)]) tys_ok (zBI.cons N) mixed Try.func47 (zBI.ls N) rfl (zBI.b N)
theorem zBI.det (N : Nat) : ConDet (zBI.con N) := det1
def zBA.con (N : Nat) : Con := { modes := [.v], ptrs := [false], fn := fn1 (.int .i64) .imm (zBA N) (fun r => [⟨.bool, .imm, r⟩]) (fun r => []) }
def zBA.cfg (N : Nat) : Cfg := { ty := tys, keep := [4], flt := [], elm := elm0, live := [], ord := [], con := [((30, [.one, .one, .one]), zAI.con N)], loops := [], joins := [] }
theorem zBA.cons (N : Nat) : ConsOk Try.prog (zBA.cfg N).con := (consOk_cons (hb30) (zAI.ok N) (zAI.det N) consOk_nil)
theorem zBA.ls (N : Nat) : LoopsOk Try.prog (zBA.cfg N) (fnBody Try.f33) := loopsL (l := []) (by kernel_rfl) trivial
theorem zBA.b (N : Nat) (x0 : den (.int .i64)) : body (zBA.cfg N) N Try.f33 [.one] [.v] [(false, .imm)] [⟨(.int .i64), .imm, x0⟩] (fun r i => some (r, i)) = bindO (zBA N x0) fun r => some ([⟨.bool, .imm, r⟩], []) := by
  show _ = bindF _ _
  conv => rhs; simp only [zBA, bindF_ifB, bindF_bindO, bindF_pure, bindF_none, bindF_onSum]
  kernel_rfl
theorem zBA.ok (N : Nat) : ConOk Try.prog 33 [.one] (zBA.con N) := ok1 (g := zBA.cfg N) (N := N) (res := [(false, .imm)]) tys_ok (zBA.cons N) mixed Try.func33 (zBA.ls N) rfl (zBA.b N)
theorem zBA.det (N : Nat) : ConDet (zBA.con N) := det1
def zB2.con (N : Nat) : Con := { modes := [.v, .v, .v], ptrs := [false], fn := fn3 s23 .imm s24 .imm (.int .i64) .imm (zB2 N) (fun r => [⟨.bool, .imm, r⟩]) (fun r => []) }
def zB2.cfg (N : Nat) : Cfg := { ty := tys, keep := [8, 11, 15], flt := [], elm := elm0, live := [], ord := [], con := [((46, [.one]), zAW.con N), ((47, [.one]), zBI.con N), ((33, [.one]), zBA.con N)], loops := [], joins := [] }
theorem zB2.cons (N : Nat) : ConsOk Try.prog (zB2.cfg N).con := (consOk_cons (hb46) (zAW.ok N) (zAW.det N) (consOk_cons (hb47) (zBI.ok N) (zBI.det N) (consOk_cons (hb33) (zBA.ok N) (zBA.det N) consOk_nil)))
theorem zB2.ls (N : Nat) : LoopsOk Try.prog (zB2.cfg N) (fnBody Try.f26) := loopsL (l := []) (by kernel_rfl) trivial
theorem zB2.b (N : Nat) (x0 : den s23) (x1 : den s24) (x2 : den (.int .i64)) : body (zB2.cfg N) N Try.f26 [.one, .one, .one] [.v, .v, .v] [(false, .imm)] [⟨s23, .imm, x0⟩, ⟨s24, .imm, x1⟩, ⟨(.int .i64), .imm, x2⟩] (fun r i => some (r, i)) = bindO (zB2 N x0 x1 x2) fun r => some ([⟨.bool, .imm, r⟩], []) := by
  show _ = bindF _ _
  conv => rhs; simp only [zB2, bindF_ifB, bindF_bindO, bindF_pure, bindF_none, bindF_onSum]
  kernel_rfl
theorem zB2.ok (N : Nat) : ConOk Try.prog 26 [.one, .one, .one] (zB2.con N) := ok3 (g := zB2.cfg N) (N := N) (res := [(false, .imm)]) tys_ok (zB2.cons N) mixed Try.func26 (zB2.ls N) rfl (zB2.b N)
theorem zB2.det (N : Nat) : ConDet (zB2.con N) := det3
def zB9.con (N : Nat) : Con := { modes := [.v], ptrs := [false], fn := fn1 (.int .i64) .imm (zB9 N) (fun r => [⟨.bool, .imm, r⟩]) (fun r => []) }
def zB9.cfg (N : Nat) : Cfg := { ty := tys, keep := [4], flt := [], elm := elm0, live := [], ord := [], con := [((30, [.one, .one, .one]), zAI.con N)], loops := [], joins := [] }
theorem zB9.cons (N : Nat) : ConsOk Try.prog (zB9.cfg N).con := (consOk_cons (hb30) (zAI.ok N) (zAI.det N) consOk_nil)
theorem zB9.ls (N : Nat) : LoopsOk Try.prog (zB9.cfg N) (fnBody Try.f27) := loopsL (l := []) (by kernel_rfl) trivial
theorem zB9.b (N : Nat) (x0 : den (.int .i64)) : body (zB9.cfg N) N Try.f27 [.one] [.v] [(false, .imm)] [⟨(.int .i64), .imm, x0⟩] (fun r i => some (r, i)) = bindO (zB9 N x0) fun r => some ([⟨.bool, .imm, r⟩], []) := by
  show _ = bindF _ _
  conv => rhs; simp only [zB9, bindF_ifB, bindF_bindO, bindF_pure, bindF_none, bindF_onSum]
  kernel_rfl
theorem zB9.ok (N : Nat) : ConOk Try.prog 27 [.one] (zB9.con N) := ok1 (g := zB9.cfg N) (N := N) (res := [(false, .imm)]) tys_ok (zB9.cons N) mixed Try.func27 (zB9.ls N) rfl (zB9.b N)
theorem zB9.det (N : Nat) : ConDet (zB9.con N) := det1
def zAY.con (N : Nat) : Con := { modes := [.io], ptrs := [], fn := fn1 s68 (.pr .imm (.pr .imm (.pr .imm (.pr (.own (.pr (.pr (.own .imm) .imm) .imm)) (.pr .imm (.pr (.own .imm) .imm)))))) (zAY N) (fun r => []) (fun r => [⟨s68, (.pr .imm (.pr .imm (.pr .imm (.pr (.own (.pr (.pr (.own .imm) .imm) .imm)) (.pr .imm (.pr (.own .imm) .imm)))))), r⟩]) }
def zAY.cfg (N : Nat) : Cfg := { ty := tys, keep := [], flt := [], elm := elm0, live := [], ord := [], con := [], loops := [], joins := [] }
theorem zAY.cons (N : Nat) : ConsOk Try.prog (zAY.cfg N).con := consOk_nil
theorem zAY.ls (N : Nat) : LoopsOk Try.prog (zAY.cfg N) (fnBody Try.f62) := loopsL (l := []) (by kernel_rfl) trivial
theorem zAY.b (N : Nat) (x0 : den s68) : body (zAY.cfg N) N Try.f62 [.one] [.io] [] [⟨s68, (.pr .imm (.pr .imm (.pr .imm (.pr (.own (.pr (.pr (.own .imm) .imm) .imm)) (.pr .imm (.pr (.own .imm) .imm)))))), x0⟩] (fun r i => some (r, i)) = bindO (zAY N x0) fun r => some ([], [⟨s68, (.pr .imm (.pr .imm (.pr .imm (.pr (.own (.pr (.pr (.own .imm) .imm) .imm)) (.pr .imm (.pr (.own .imm) .imm)))))), r⟩]) := by
  show _ = bindF _ _
  conv => rhs; simp only [zAY, bindF_ifB, bindF_bindO, bindF_pure, bindF_none, bindF_onSum]
  kernel_rfl
theorem zAY.ok (N : Nat) : ConOk Try.prog 62 [.one] (zAY.con N) := ok1 (g := zAY.cfg N) (N := N) (res := []) tys_ok (zAY.cons N) mixed Try.func62 (zAY.ls N) rfl (zAY.b N)
theorem zAY.det (N : Nat) : ConDet (zAY.con N) := det1
def zAZ.con (N : Nat) : Con := { modes := [.v], ptrs := [false], fn := fn1 (.int .i64) .imm (zAZ N) (fun r => [⟨.bool, .imm, r⟩]) (fun r => []) }
def zAZ.cfg (N : Nat) : Cfg := { ty := tys, keep := [], flt := [], elm := elm0, live := [], ord := [], con := [], loops := [], joins := [] }
theorem zAZ.cons (N : Nat) : ConsOk Try.prog (zAZ.cfg N).con := consOk_nil
theorem zAZ.ls (N : Nat) : LoopsOk Try.prog (zAZ.cfg N) (fnBody Try.f53) := loopsL (l := []) (by kernel_rfl) trivial
theorem zAZ.b (N : Nat) (x0 : den (.int .i64)) : body (zAZ.cfg N) N Try.f53 [.one] [.v] [(false, .imm)] [⟨(.int .i64), .imm, x0⟩] (fun r i => some (r, i)) = bindO (zAZ N x0) fun r => some ([⟨.bool, .imm, r⟩], []) := by
  show _ = bindF _ _
  conv => rhs; simp only [zAZ, bindF_ifB, bindF_bindO, bindF_pure, bindF_none, bindF_onSum]
  kernel_rfl
theorem zAZ.ok (N : Nat) : ConOk Try.prog 53 [.one] (zAZ.con N) := ok1 (g := zAZ.cfg N) (N := N) (res := [(false, .imm)]) tys_ok (zAZ.cons N) mixed Try.func53 (zAZ.ls N) rfl (zAZ.b N)
theorem zAZ.det (N : Nat) : ConDet (zAZ.con N) := det1
def zBS.con (N : Nat) : Con := { modes := [.v], ptrs := [false], fn := fn1 (.int .i64) .imm (zBS N) (fun r => [⟨s23, (.own .imm), r⟩]) (fun r => []) }
def zBS.cfg (N : Nat) : Cfg := { ty := tys, keep := [4], flt := [], elm := elm0, live := [], ord := [], con := [((53, [.one]), zAZ.con N)], loops := [], joins := [] }
theorem zBS.cons (N : Nat) : ConsOk Try.prog (zBS.cfg N).con := (consOk_cons (hb53) (zAZ.ok N) (zAZ.det N) consOk_nil)
theorem zBS.ls (N : Nat) : LoopsOk Try.prog (zBS.cfg N) (fnBody Try.f63) := loopsL (l := []) (by kernel_rfl) trivial
theorem zBS.b (N : Nat) (x0 : den (.int .i64)) : body (zBS.cfg N) N Try.f63 [.one] [.v] [(false, (.own .imm))] [⟨(.int .i64), .imm, x0⟩] (fun r i => some (r, i)) = bindO (zBS N x0) fun r => some ([⟨s23, (.own .imm), r⟩], []) := by
  show _ = bindF _ _
  conv => rhs; simp only [zBS, bindF_ifB, bindF_bindO, bindF_pure, bindF_none, bindF_onSum]
  kernel_rfl
theorem zBS.ok (N : Nat) : ConOk Try.prog 63 [.one] (zBS.con N) := ok1 (g := zBS.cfg N) (N := N) (res := [(false, (.own .imm))]) tys_ok (zBS.cons N) mixed Try.func63 (zBS.ls N) rfl (zBS.b N)
theorem zBS.det (N : Nat) : ConDet (zBS.con N) := det1
def zAF.sk6 : Skel := ⟨.pv (.int .i64) :: (dd 19 (.ov 50 [] :: (.pv (.int .i64) :: (.pv (.int .i64) :: (dd 10 []))))), [⟨50, s95, (.own .imm), false, false⟩]⟩
def zAF.xs6 : List XS := [⟨.exit 0, [], ⟨dd 33 [], []⟩⟩, ⟨.ret, [2], ⟨dd 2 (.pv (.int .i64) :: (dd 30 [])), []⟩⟩]
def zAF.con (N : Nat) : Con := { modes := [.v], ptrs := [false], fn := fn1 (.int .i64) .imm (zAF N) (fun r => [⟨(.int .i64), .imm, r⟩]) (fun r => []) }
def zAF.cfg (N : Nat) : Cfg := { ty := tys, keep := [6, 10, 13, 31], flt := [], elm := elm0, live := [(6, [0, 20, 21, 22])], ord := [], con := [((52, [.one]), zB8.con N), ((30, [.one, .one, .one]), zAI.con N), ((53, [.one]), zAZ.con N)], loops := [(6, loopCon N zAF.sk6 zAF.xs6 (fun {R} => zAF.l6 (R := R) N))], joins := [] }
theorem zAF.cons (N : Nat) : ConsOk Try.prog (zAF.cfg N).con := (consOk_cons (hb52) (zB8.ok N) (zB8.det N) (consOk_cons (hb30) (zAI.ok N) (zAI.det N) (consOk_cons (hb53) (zAZ.ok N) (zAZ.det N) consOk_nil)))
theorem zAF.h6 {R : Type} (N : Nat) (d : zAF.sk6.D) (kn : zAF.sk6.D → Option R) (kx : XD zAF.xs6 → Option R) : roundK (zAF.cfg N) N (nthLoop (fnBody Try.f50) 0) zAF.sk6 zAF.xs6 d kn kx = zAF.l6 N d kn kx := by kernel_rfl
theorem zAF.i6 (N : Nat) : LoopsOk Try.prog (zAF.cfg N) (nthLoop (fnBody Try.f50) 0) := loopsL (l := []) (by kernel_rfl) trivial
theorem zAF.o6 (N : Nat) : LoopOk Try.prog (nthLoop (fnBody Try.f50) 0) (loopCon N zAF.sk6 zAF.xs6 (fun {R} => zAF.l6 (R := R) N)) := loop_ok (g := zAF.cfg N) tys_ok (zAF.cons N) mixed (zAF.i6 N) (fun d kn kx => zAF.h6 N d kn kx)
theorem zAF.ls (N : Nat) : LoopsOk Try.prog (zAF.cfg N) (fnBody Try.f50) := loopsL (l := [nthLoop (fnBody Try.f50) 0]) (by kernel_rfl) ⟨loopOne (L0 := loopCon N zAF.sk6 zAF.xs6 (fun {R} => zAF.l6 (R := R) N)) (id := 6) (by kernel_rfl) (by kernel_rfl) (zAF.o6 N), trivial⟩
theorem zAF.q6 {R R' : Type} {N n : Nat} {d} {k} {g : R → Option R'} : bindF (loopP (zAF.l6 N) n d k) g = loopP (zAF.l6 N) n d fun e => bindF (k e) g := bindF_loopP (fun d kn kx => by simp only [zAF.l6, bindF_ifB, bindF_bindO, bindF_pure, bindF_none, bindF_onSum]) n d k
theorem zAF.b (N : Nat) (x0 : den (.int .i64)) : body (zAF.cfg N) N Try.f50 [.one] [.v] [(false, .imm)] [⟨(.int .i64), .imm, x0⟩] (fun r i => some (r, i)) = bindO (zAF N x0) fun r => some ([⟨(.int .i64), .imm, r⟩], []) := by
  show _ = bindF _ _
  conv => rhs; simp only [zAF, bindF_ifB, bindF_bindO, bindF_pure, bindF_none, bindF_onSum, zAF.q6]
  kernel_rfl
theorem zAF.ok (N : Nat) : ConOk Try.prog 50 [.one] (zAF.con N) := ok1 (g := zAF.cfg N) (N := N) (res := [(false, .imm)]) tys_ok (zAF.cons N) mixed Try.func50 (zAF.ls N) rfl (zAF.b N)
theorem zAF.det (N : Nat) : ConDet (zAF.con N) := det1
def zA6.sk3 : Skel := ⟨.ptr 0 [] :: (dd 1 (.pv (.int .i64) :: (dd 12 (.ov 50 [] :: (.pv (.int .i64) :: (.pv (.int .i64) :: (dd 86 []))))))), [⟨0, s68, (.pr .imm (.pr .imm (.pr .imm (.pr (.own (.pr (.pr (.own .imm) .imm) .imm)) (.pr .imm (.pr (.own .imm) .imm)))))), true, false⟩, ⟨50, s23, (.own .imm), false, false⟩]⟩
def zA6.xs3 : List XS := [⟨.exit 0, [], ⟨dd 104 [], [⟨0, s68, (.pr .imm (.pr .imm (.pr .imm (.pr (.own (.pr (.pr (.own .imm) .imm) .imm)) (.pr .imm (.pr (.own .imm) .imm)))))), true, false⟩]⟩⟩]
def zA6.con (N : Nat) : Con := { modes := [.io, .v, .v], ptrs := [], fn := fn3 s68 (.pr .imm (.pr .imm (.pr .imm (.pr (.own (.pr (.pr (.own .imm) .imm) .imm)) (.pr .imm (.pr (.own .imm) .imm)))))) (.int .i64) .imm (.int .i64) .imm (zA6 N) (fun r => []) (fun r => [⟨s68, (.pr .imm (.pr .imm (.pr .imm (.pr (.own (.pr (.pr (.own .imm) .imm) .imm)) (.pr .imm (.pr (.own .imm) .imm)))))), r⟩]) }
def zA6.cfg (N : Nat) : Cfg := { ty := tys, keep := [13, 15, 22, 69], flt := [], elm := elm0, live := [(3, [0, 2, 15, 16, 17])], ord := [(8, [0, 1, 2, 3, 4, 5, 6, 7, 8, 9, 10, 11, 12]), (11, [0, 1, 2, 3, 4, 5, 6, 7, 8, 9, 10]), (13, [0, 1, 2, 3, 4, 5, 7, 9, 10, 11, 12, 13, 14, 15, 16, 6, 8, 17, 18, 19, 20, 21, 22])], con := [((62, [.one]), zAY.con N), ((63, [.one]), zBS.con N), ((50, [.one]), zAF.con N)], loops := [(3, loopCon N zA6.sk3 zA6.xs3 (fun {R} => zA6.l3 (R := R) N))], joins := [(16, [⟨.normal, [0, 2, 15, 16, 17], ⟨.ptr 0 [] :: (dd 1 (.pv (.int .i64) :: (dd 12 (.ov 50 [] :: (.pv (.int .i64) :: (.pv (.int .i64) :: (dd 86 []))))))), [⟨0, s68, (.pr .imm (.pr .imm (.pr .imm (.pr (.own (.pr (.pr (.own .imm) .imm) .imm)) (.pr .imm (.pr (.own .imm) .imm)))))), true, false⟩, ⟨50, s23, (.own .imm), false, false⟩]⟩⟩])] }
theorem zA6.cons (N : Nat) : ConsOk Try.prog (zA6.cfg N).con := (consOk_cons (hb62) (zAY.ok N) (zAY.det N) (consOk_cons (hb63) (zBS.ok N) (zBS.det N) (consOk_cons (hb50) (zAF.ok N) (zAF.det N) consOk_nil)))
theorem zA6.h3 {R : Type} (N : Nat) (d : zA6.sk3.D) (kn : zA6.sk3.D → Option R) (kx : XD zA6.xs3 → Option R) : roundK (zA6.cfg N) N (nthLoop (fnBody Try.f48) 0) zA6.sk3 zA6.xs3 d kn kx = zA6.l3 N d kn kx := by kernel_rfl
theorem zA6.i3 (N : Nat) : LoopsOk Try.prog (zA6.cfg N) (nthLoop (fnBody Try.f48) 0) := loopsL (l := []) (by kernel_rfl) trivial
theorem zA6.o3 (N : Nat) : LoopOk Try.prog (nthLoop (fnBody Try.f48) 0) (loopCon N zA6.sk3 zA6.xs3 (fun {R} => zA6.l3 (R := R) N)) := loop_ok (g := zA6.cfg N) tys_ok (zA6.cons N) mixed (zA6.i3 N) (fun d kn kx => zA6.h3 N d kn kx)
theorem zA6.ls (N : Nat) : LoopsOk Try.prog (zA6.cfg N) (fnBody Try.f48) := loopsL (l := [nthLoop (fnBody Try.f48) 0]) (by kernel_rfl) ⟨loopOne (L0 := loopCon N zA6.sk3 zA6.xs3 (fun {R} => zA6.l3 (R := R) N)) (id := 3) (by kernel_rfl) (by kernel_rfl) (zA6.o3 N), trivial⟩
theorem zA6.q3 {R R' : Type} {N n : Nat} {d} {k} {g : R → Option R'} : bindF (loopP (zA6.l3 N) n d k) g = loopP (zA6.l3 N) n d fun e => bindF (k e) g := bindF_loopP (fun d kn kx => by simp only [zA6.l3, bindF_ifB, bindF_bindO, bindF_pure, bindF_none, bindF_onSum]) n d k
theorem zA6.b (N : Nat) (x0 : den s68) (x1 : den (.int .i64)) (x2 : den (.int .i64)) : body (zA6.cfg N) N Try.f48 [.one, .one, .one] [.io, .v, .v] [] [⟨s68, (.pr .imm (.pr .imm (.pr .imm (.pr (.own (.pr (.pr (.own .imm) .imm) .imm)) (.pr .imm (.pr (.own .imm) .imm)))))), x0⟩, ⟨(.int .i64), .imm, x1⟩, ⟨(.int .i64), .imm, x2⟩] (fun r i => some (r, i)) = bindO (zA6 N x0 x1 x2) fun r => some ([], [⟨s68, (.pr .imm (.pr .imm (.pr .imm (.pr (.own (.pr (.pr (.own .imm) .imm) .imm)) (.pr .imm (.pr (.own .imm) .imm)))))), r⟩]) := by
  show _ = bindF _ _
  conv => rhs; simp only [zA6, bindF_ifB, bindF_bindO, bindF_pure, bindF_none, bindF_onSum, zA6.q3]
  kernel_rfl
theorem zA6.ok (N : Nat) : ConOk Try.prog 48 [.one, .one, .one] (zA6.con N) := ok3 (g := zA6.cfg N) (N := N) (res := []) tys_ok (zA6.cons N) mixed Try.func48 (zA6.ls N) rfl (zA6.b N)
theorem zA6.det (N : Nat) : ConDet (zA6.con N) := det3
def zB5.con (N : Nat) : Con := { modes := [.rd], ptrs := [false, false], fn := fn1 s24 .imm (zB5 N) (fun r => [⟨(.int .i64), .imm, r.1⟩, ⟨(.int .i64), .imm, r.2⟩]) (fun r => []) }
def zB5.cfg (N : Nat) : Cfg := { ty := tys, keep := [], flt := [], elm := elm0, live := [], ord := [(1, [0, 1, 2, 3, 4, 5, 6, 7, 9, 10, 11, 12, 13, 14, 15, 16, 8, 17, 18, 19])], con := [], loops := [], joins := [] }
theorem zB5.cons (N : Nat) : ConsOk Try.prog (zB5.cfg N).con := consOk_nil
theorem zB5.ls (N : Nat) : LoopsOk Try.prog (zB5.cfg N) (fnBody Try.f49) := loopsL (l := []) (by kernel_rfl) trivial
theorem zB5.b (N : Nat) (x0 : den s24) : body (zB5.cfg N) N Try.f49 [.one] [.rd] [(false, .imm), (false, .imm)] [⟨s24, .imm, x0⟩] (fun r i => some (r, i)) = bindO (zB5 N x0) fun r => some ([⟨(.int .i64), .imm, r.1⟩, ⟨(.int .i64), .imm, r.2⟩], []) := by
  show _ = bindF _ _
  conv => rhs; simp only [zB5, bindF_ifB, bindF_bindO, bindF_pure, bindF_none, bindF_onSum]
  kernel_rfl
theorem zB5.ok (N : Nat) : ConOk Try.prog 49 [.one] (zB5.con N) := ok1 (g := zB5.cfg N) (N := N) (res := [(false, .imm), (false, .imm)]) tys_ok (zB5.cons N) mixed Try.func49 (zB5.ls N) rfl (zB5.b N)
theorem zB5.det (N : Nat) : ConDet (zB5.con N) := det1
def zAS.con (N : Nat) : Con := { modes := [.rd], ptrs := [false], fn := fn1 s68 .imm (zAS N) (fun r => [⟨s35, .imm, r⟩]) (fun r => []) }
def zAS.cfg (N : Nat) : Cfg := { ty := tys, keep := [], flt := [], elm := elm0, live := [], ord := [(1, [0, 1, 2, 3, 4, 5, 6, 7, 8]), (3, [0, 1, 2, 3, 4, 5, 6, 7, 8, 9])], con := [], loops := [], joins := [] }
theorem zAS.cons (N : Nat) : ConsOk Try.prog (zAS.cfg N).con := consOk_nil
theorem zAS.ls (N : Nat) : LoopsOk Try.prog (zAS.cfg N) (fnBody Try.f38) := loopsL (l := []) (by kernel_rfl) trivial
theorem zAS.b (N : Nat) (x0 : den s68) : body (zAS.cfg N) N Try.f38 [.one] [.rd] [(false, .imm)] [⟨s68, .imm, x0⟩] (fun r i => some (r, i)) = bindO (zAS N x0) fun r => some ([⟨s35, .imm, r⟩], []) := by
  show _ = bindF _ _
  conv => rhs; simp only [zAS, bindF_ifB, bindF_bindO, bindF_pure, bindF_none, bindF_onSum]
  kernel_rfl
theorem zAS.ok (N : Nat) : ConOk Try.prog 38 [.one] (zAS.con N) := ok1 (g := zAS.cfg N) (N := N) (res := [(false, .imm)]) tys_ok (zAS.cons N) mixed Try.func38 (zAS.ls N) rfl (zAS.b N)
theorem zAS.det (N : Nat) : ConDet (zAS.con N) := det1
def zAG.sk3 : Skel := ⟨dd 2 (.pv .bool :: (dd 2 (.ptr 50 [] :: (dd 3 (.ptr 51 [] :: (dd 10 (.pv s23 :: (.pv (.int .i64) :: (.pv (.int .i64) :: (dd 55 [])))))))))), [⟨50, s24, .imm, true, false⟩, ⟨51, s68, (.pr .imm (.pr .imm (.pr .imm (.pr (.own (.pr (.pr (.own .imm) .imm) .imm)) (.pr .imm (.pr (.own .imm) .imm)))))), true, false⟩]⟩
def zAG.xs3 : List XS := [⟨.exit 0, [2, 5, 9], ⟨dd 2 (.pv .bool :: (dd 2 (.ptr 50 [] :: (dd 3 (.ptr 51 [] :: (dd 68 [])))))), [⟨50, s24, .imm, true, false⟩, ⟨51, s68, (.pr .imm (.pr .imm (.pr .imm (.pr (.own (.pr (.pr (.own .imm) .imm) .imm)) (.pr .imm (.pr (.own .imm) .imm)))))), true, false⟩]⟩⟩]
def zAG.sk9 : Skel := ⟨dd 2 (.pv .bool :: (dd 6 (.ptr 50 [] :: (dd 2 (.pv (.int .i64) :: (.pv (.int .i64) :: (dd 21 (.pv s23 :: (.pv (.int .i64) :: (.pv (.int .i64) :: (dd 40 []))))))))))), [⟨50, s68, (.pr .imm (.pr .imm (.pr .imm (.pr (.own (.pr (.pr (.own .imm) .imm) .imm)) (.pr .imm (.pr (.own .imm) .imm)))))), true, false⟩]⟩
def zAG.xs9 : List XS := [⟨.exit 2, [9], ⟨dd 9 (.ptr 50 [] :: (dd 68 [])), [⟨50, s68, (.pr .imm (.pr .imm (.pr .imm (.pr (.own (.pr (.pr (.own .imm) .imm) .imm)) (.pr .imm (.pr (.own .imm) .imm)))))), true, false⟩]⟩⟩]
def zAG.con (N : Nat) : Con := { modes := [.v, .v, .v, .v], ptrs := [true], fn := fn4 s23 .imm s24 .imm .bool .imm (.int .i64) .imm (zAG N) (fun r => [⟨s68, .imm, r⟩]) (fun r => []) }
def zAG.cfg (N : Nat) : Cfg := { ty := tys, keep := [28, 31, 48, 59, 64, 72], flt := [], elm := elm0, live := [(9, [2, 9, 12, 13, 35, 36, 37]), (3, [2, 5, 9, 20, 21, 22])], ord := [(11, [0, 1, 2, 3, 4, 5, 6, 7, 8, 9, 10, 11]), (17, [0, 1, 2, 3, 4, 5, 6, 7, 8, 9, 10, 11])], con := [((48, [.one, .one, .one]), zA6.con N), ((49, [.one]), zB5.con N), ((38, [.one]), zAS.con N), ((30, [.one, .one, .one]), zAI.con N)], loops := [(3, loopCon N zAG.sk3 zAG.xs3 (fun {R} => zAG.l3 (R := R) N)), (9, loopCon N zAG.sk9 zAG.xs9 (fun {R} => zAG.l9 (R := R) N))], joins := [(16, [⟨.normal, [2, 9, 12, 13, 35, 36, 37], ⟨dd 2 (.pv .bool :: (dd 6 (.ptr 50 [] :: (dd 2 (.pv (.int .i64) :: (.pv (.int .i64) :: (dd 21 (.pv s23 :: (.pv (.int .i64) :: (.pv (.int .i64) :: (dd 40 []))))))))))), [⟨50, s68, (.pr .imm (.pr .imm (.pr .imm (.pr (.own (.pr (.pr (.own .imm) .imm) .imm)) (.pr .imm (.pr (.own .imm) .imm)))))), true, false⟩]⟩⟩])] }
theorem zAG.cons (N : Nat) : ConsOk Try.prog (zAG.cfg N).con := (consOk_cons (hb48) (zA6.ok N) (zA6.det N) (consOk_cons (hb49) (zB5.ok N) (zB5.det N) (consOk_cons (hb38) (zAS.ok N) (zAS.det N) (consOk_cons (hb30) (zAI.ok N) (zAI.det N) consOk_nil))))
theorem zAG.h9 {R : Type} (N : Nat) (d : zAG.sk9.D) (kn : zAG.sk9.D → Option R) (kx : XD zAG.xs9 → Option R) : roundK (zAG.cfg N) N (nthLoop (fnBody Try.f28) 1) zAG.sk9 zAG.xs9 d kn kx = zAG.l9 N d kn kx := by kernel_rfl
theorem zAG.i9 (N : Nat) : LoopsOk Try.prog (zAG.cfg N) (nthLoop (fnBody Try.f28) 1) := loopsL (l := []) (by kernel_rfl) trivial
theorem zAG.o9 (N : Nat) : LoopOk Try.prog (nthLoop (fnBody Try.f28) 1) (loopCon N zAG.sk9 zAG.xs9 (fun {R} => zAG.l9 (R := R) N)) := loop_ok (g := zAG.cfg N) tys_ok (zAG.cons N) mixed (zAG.i9 N) (fun d kn kx => zAG.h9 N d kn kx)
theorem zAG.h3 {R : Type} (N : Nat) (d : zAG.sk3.D) (kn : zAG.sk3.D → Option R) (kx : XD zAG.xs3 → Option R) : roundK (zAG.cfg N) N (nthLoop (fnBody Try.f28) 0) zAG.sk3 zAG.xs3 d kn kx = zAG.l3 N d kn kx := by kernel_rfl
theorem zAG.i3 (N : Nat) : LoopsOk Try.prog (zAG.cfg N) (nthLoop (fnBody Try.f28) 0) := loopsL (l := []) (by kernel_rfl) trivial
theorem zAG.o3 (N : Nat) : LoopOk Try.prog (nthLoop (fnBody Try.f28) 0) (loopCon N zAG.sk3 zAG.xs3 (fun {R} => zAG.l3 (R := R) N)) := loop_ok (g := zAG.cfg N) tys_ok (zAG.cons N) mixed (zAG.i3 N) (fun d kn kx => zAG.h3 N d kn kx)
theorem zAG.ls (N : Nat) : LoopsOk Try.prog (zAG.cfg N) (fnBody Try.f28) := loopsL (l := [nthLoop (fnBody Try.f28) 0, nthLoop (fnBody Try.f28) 1]) (by kernel_rfl) ⟨loopOne (L0 := loopCon N zAG.sk3 zAG.xs3 (fun {R} => zAG.l3 (R := R) N)) (id := 3) (by kernel_rfl) (by kernel_rfl) (zAG.o3 N), ⟨loopOne (L0 := loopCon N zAG.sk9 zAG.xs9 (fun {R} => zAG.l9 (R := R) N)) (id := 9) (by kernel_rfl) (by kernel_rfl) (zAG.o9 N), trivial⟩⟩
theorem zAG.q9 {R R' : Type} {N n : Nat} {d} {k} {g : R → Option R'} : bindF (loopP (zAG.l9 N) n d k) g = loopP (zAG.l9 N) n d fun e => bindF (k e) g := bindF_loopP (fun d kn kx => by simp only [zAG.l9, bindF_ifB, bindF_bindO, bindF_pure, bindF_none, bindF_onSum]) n d k
theorem zAG.q3 {R R' : Type} {N n : Nat} {d} {k} {g : R → Option R'} : bindF (loopP (zAG.l3 N) n d k) g = loopP (zAG.l3 N) n d fun e => bindF (k e) g := bindF_loopP (fun d kn kx => by simp only [zAG.l3, bindF_ifB, bindF_bindO, bindF_pure, bindF_none, bindF_onSum]) n d k
theorem zAG.b (N : Nat) (x0 : den s23) (x1 : den s24) (x2 : den .bool) (x3 : den (.int .i64)) : body (zAG.cfg N) N Try.f28 [.one, .one, .one, .one] [.v, .v, .v, .v] [(true, .imm)] [⟨s23, .imm, x0⟩, ⟨s24, .imm, x1⟩, ⟨.bool, .imm, x2⟩, ⟨(.int .i64), .imm, x3⟩] (fun r i => some (r, i)) = bindO (zAG N x0 x1 x2 x3) fun r => some ([⟨s68, .imm, r⟩], []) := by
  show _ = bindF _ _
  conv => rhs; simp only [zAG, bindF_ifB, bindF_bindO, bindF_pure, bindF_none, bindF_onSum, zAG.q3, zAG.q9]
  kernel_rfl
theorem zAG.ok (N : Nat) : ConOk Try.prog 28 [.one, .one, .one, .one] (zAG.con N) := ok4 (g := zAG.cfg N) (N := N) (res := [(true, .imm)]) tys_ok (zAG.cons N) mixed Try.func28 (zAG.ls N) rfl (zAG.b N)
theorem zAG.det (N : Nat) : ConDet (zAG.con N) := det4
end Go.AE.F
end
