/- The printed functions are what the program comes to: contracts. -/
import Derived.Test.YtmgdbchplfmifaaDoorXSendAllL4
noncomputable section
namespace Go.AE.F
open Go.AE Go.Proofs
set_option maxRecDepth 100000
def zAV.con (N : Nat) : Con := { modes := [.v], ptrs := [false], fn := fn1 s23 .imm (zAV N) (fun r => [⟨.bool, .imm, r⟩]) (fun r => []) }
def zAV.cfg (N : Nat) : Cfg := { ty := tys, keep := [9, 13, 14, 16, 18, 24, 25], flt := [], elm := elm0, live := [], ord := [(10, [0, 1, 2, 3, 4])], con := [((4, [.one, .one]), zBI.con N), ((6, [.one]), zBF.con N), ((5, [.one]), zBE.con N), ((7, [.one]), zBA.con N), ((8, [.one, .one]), zBH.con N)], loops := [], joins := [] }
theorem zAV.cons (N : Nat) : ConsOk Tryd.prog (zAV.cfg N).con := (consOk_cons (hb4) (zBI.ok N) (zBI.det N) (consOk_cons (hb6) (zBF.ok N) (zBF.det N) (consOk_cons (hb5) (zBE.ok N) (zBE.det N) (consOk_cons (hb7) (zBA.ok N) (zBA.det N) (consOk_cons (hb8) (zBH.ok N) (zBH.det N) consOk_nil)))))
theorem zAV.ls (N : Nat) : LoopsOk Tryd.prog (zAV.cfg N) (fnBody Tryd.f3) := loopsL (l := []) (by kernel_rfl) trivial
theorem zAV.b (N : Nat) (x0 : den s23) : body (zAV.cfg N) N Tryd.f3 [.one] [.v] [(false, .imm)] [⟨s23, .imm, x0⟩] (fun r i => some (r, i)) = bindO (zAV N x0) fun r => some ([⟨.bool, .imm, r⟩], []) := by
  show _ = bindF _ _
  conv => rhs; simp only [zAV, bindF_ifB, bindF_bindO, bindF_pure, bindF_none, bindF_onSum]
  kernel_rfl
theorem zAV.ok (N : Nat) : ConOk Tryd.prog 3 [.one] (zAV.con N) := ok1 (g := zAV.cfg N) (N := N) (res := [(false, .imm)]) tys_ok (zAV.cons N) mixed Tryd.func3 (zAV.ls N) rfl (zAV.b N)
theorem zAV.det (N : Nat) : ConDet (zAV.con N) := det1
end Go.AE.F
end
