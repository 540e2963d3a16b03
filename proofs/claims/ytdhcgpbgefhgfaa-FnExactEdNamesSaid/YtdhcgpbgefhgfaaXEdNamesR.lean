/- The law FnExactEdNames returns true for every input, and leaves its arguments as they were; no condition. -/
import Derived.Test.YtdhcgpbgefhgfaaRows
import Derived.Test.YtdhcgpbgefhgfaaA5
import Derived.Test.YtdhcgpbgefhgfaaXEdNamesL2
import Derived.Test.YtdhcgpbgefhgfaaXEdNamesP1
import Derived.WalkKit
import Derived.ProofKit
import Derived.OpenShut
import Derived.ShutString
import Derived.ChangeOld
import Derived.Below
import Derived.SizedLaws
namespace Go.Proofs.Ytdhcgpbgefhgfaa.fnExactEdNames
open Go.ChangeShapes Go.WideShapes Go.ChangeAt Go.RowKit
open Go.ChangeMaps (open_string shut_string)
theorem own : ownKnob Try.prog.godebug = none := by kernel_rfl
theorem laidOut : laidOutB Try.prog = true := by kernel_rfl
set_option maxRecDepth 100000 in
theorem lifted (os : Os) (started : os.Started) (H : Type) (enc : TypeId × Value → H) :
    ReturnsInHanded {} Try.checked os 3 .any (Rows.fnExactEdNamesSpec.pre6 enc Try.prog Try.f3 Rows.fnExactEdNamesRow.domain false) (Rows.fnExactEdNamesSpec.post enc Try.prog Try.f3 false true false false) := by
  refine returnsInHanded_of_change_sized (C := Try.checked) own started (by kernel_rfl) Try.func3
    (ChangeSpec.witness6 (enc := enc) (C := Try.checked) false ⟨#[], #[], []⟩ 8 (by kernel_rfl) (by kernel_rfl) (by kernel_rfl) (by kernel_rfl)) ?_
  intro W base args ds gs before hval0 hW hcnd hsz0 _
  have hval : ∀ (j : Nat) t v, Try.f3.params[j]? = some t → args[j]? = some v → Value.okWide Try.prog W .any base t v := hval0
  have hW' := hW
  obtain ⟨p, q, hA0, hV, rfl, hfz, hnd⟩ := hW
  have hA : DataW.TrodAll enc Try.prog W 0 (fun _ => true) true Try.f3.params.toList args.toList ds p := hA0
  rw [Try.params3] at hA hval
  obtain ⟨hargs, rfl, rfl⟩ := trodAll_nil hA
  obtain rfl : args = #[] := by cases args; simp_all
  obtain ⟨rfl, rfl⟩ := trodVars_none hV
  have hargsR : Go.AE.ArgsRep (Go.AE.memOf W) [] [] [] Go.AE.Hp.e := Go.AE.argsRep_nil
  obtain ⟨N, hN⟩ := Go.AE.F.pure_FnExactEdNames 
  have hcall := Go.AE.law_calls (vs := []) (o := .imm) (Go.AE.F.laws_FnExactEdNames.ok N) (by first | rfl | exact ⟨_, rfl, rfl⟩ | exact ⟨_, rfl, _, rfl, rfl⟩ | exact ⟨_, rfl, _, rfl, _, rfl, rfl⟩) hargsR rfl (by
    show (Go.AE.bindO (Go.AE.F.laws_FnExactEdNames N ) fun r => some (([(⟨.bool, .imm, r⟩ : Go.AE.Dy)] : List Go.AE.Dy), ([] : List Go.AE.Dy))) = some ([⟨.bool, .imm, true⟩], [])
    rw [hN]
    rfl)
  skip
  refine hcall.mono fun e W' ⟨he, bel⟩ => ?_
  subst he
  exact ⟨_, rfl, _, _, _, [], _, [], hW', trodAll_mk1 (shut_bool Try.underlying4 _), trodAll_mk0, rfl, bel.frame _, fun h => by cases h⟩
theorem over : Rows.fnExactEdNamesRow.holds Try.pinned (OpenSpec.ofChange Rows.fnExactEdNamesSpec) :=
  OpenClaim.holds_of_wide 3 Try.f3 rfl rfl rfl rfl rfl rfl rfl ⟨rfl, rfl, rfl, rfl, rfl⟩ rfl rfl rfl rfl rfl (by kernel_rfl) Try.func3 (by kernel_rfl)
    (of_decide_eq_true (by kernel_rfl)) (by unfold Func.isWrapper; first | (rw [if_pos (by decide +kernel)]; kernel_rfl) | (rw [if_neg (by decide +kernel)]; exact ⟨rfl, rfl⟩))
    (fun os started H enc _ => lifted os started H enc)
theorem proved : Rows.FnExactEdNamesSaid := over
#print axioms proved
end Go.Proofs.Ytdhcgpbgefhgfaa.fnExactEdNames
namespace Go.Proofs.Ytdhcgpbgefhgfaa
/-- The row, under a short name, for the claim. -/
theorem fnExactEdNames_holds : Rows.FnExactEdNamesSaid := fnExactEdNames.proved
end Go.Proofs.Ytdhcgpbgefhgfaa
