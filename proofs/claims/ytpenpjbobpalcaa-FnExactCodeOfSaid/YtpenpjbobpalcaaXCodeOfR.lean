/- The law FnExactCodeOf returns true for every input, and leaves its arguments as they were; no condition. -/
import Derived.Test.YtpenpjbobpalcaaRows
import Derived.Test.YtpenpjbobpalcaaA6
import Derived.Test.YtpenpjbobpalcaaXCodeOfL4
import Derived.Test.YtpenpjbobpalcaaXCodeOfP9
import Derived.WalkKit
import Derived.ProofKit
import Derived.OpenShut
import Derived.ShutString
import Derived.ChangeOld
import Derived.Below
import Derived.SizedLaws
namespace Go.Proofs.Ytpenpjbobpalcaa.fnExactCodeOf
open Go.ChangeShapes Go.WideShapes Go.ChangeAt Go.RowKit
open Go.ChangeMaps (open_string shut_string)
theorem own : ownKnob Try.prog.godebug = none := by kernel_rfl
theorem laidOut : laidOutB Try.prog = true := by kernel_rfl
set_option maxRecDepth 100000 in
theorem lifted (os : Os) (started : os.Started) (H : Type) (enc : TypeId × Value → H) :
    ReturnsInHanded {} Try.checked os 3 .any (Rows.fnExactCodeOfSpec.pre6 enc Try.prog Try.f3 Rows.fnExactCodeOfRow.domain false) (Rows.fnExactCodeOfSpec.post enc Try.prog Try.f3 false true false false) := by
  refine returnsInHanded_of_change_sized (C := Try.checked) own started (by kernel_rfl) Try.func3
    (ChangeSpec.witness6 (enc := enc) (C := Try.checked) false ⟨#[], #[.slice none 0 0], []⟩ 8 (by kernel_rfl) (by kernel_rfl) (by kernel_rfl) (by kernel_rfl)) ?_
  intro W base args ds gs before hval0 hW hcnd hsz0 _
  have hval : ∀ (j : Nat) t v, Try.f3.params[j]? = some t → args[j]? = some v → Value.okWide Try.prog W .any base t v := hval0
  have hW' := hW
  obtain ⟨p, q, hA0, hV, rfl, hfz, hnd⟩ := hW
  have hA : DataW.TrodAll enc Try.prog W 0 (fun _ => true) true Try.f3.params.toList args.toList ds p := hA0
  rw [Try.params3] at hA hval
  obtain ⟨v0, vs0, d0, ds0, p0, q0, hargs, rfl, rfl, h0, r0⟩ := trodAll_cons hA
  obtain ⟨rfl, rfl, rfl⟩ := trodAll_nil r0
  obtain rfl : args = #[v0] := by cases args; simp_all
  obtain ⟨rfl, rfl⟩ := trodVars_none hV
  obtain ⟨c0, x0, ev0, rep0, wf0⟩ := Go.AE.open_arg (s := (.sl 35 (.pair (.int .i64) (.pair (.int .i64) (.pair .str (.pair (.int .i64) .unit)))))) (by kernel_rfl) (hval 0 22 v0 rfl rfl) h0
  have k0 := h0
  have lt0 : ∀ x ∈ p0, x.block < W.heap.size := by obtain ⟨m, hm⟩ := k0; exact DataW.trod_lt m _ _ _ hm
  have hargsR : Go.AE.ArgsRep (Go.AE.memOf W) [.v] [⟨(.sl 35 (.pair (.int .i64) (.pair (.int .i64) (.pair .str (.pair (.int .i64) .unit))))), .imm, x0⟩] [Go.AE.mkVal (.sl 35 (.pair (.int .i64) (.pair (.int .i64) (.pair .str (.pair (.int .i64) .unit))))) c0] Go.AE.Hp.e := (Go.AE.argsRep_v rep0 Go.AE.argsRep_nil)
  obtain ⟨N, hN⟩ := Go.AE.F.pure_FnExactCodeOf x0 wf0
  have hcall := Go.AE.law_calls (vs := [Go.AE.mkVal (.sl 35 (.pair (.int .i64) (.pair (.int .i64) (.pair .str (.pair (.int .i64) .unit))))) c0]) (o := .imm) (Go.AE.F.zAP.ok N) (by first | rfl | exact ⟨_, rfl, rfl⟩ | exact ⟨_, rfl, _, rfl, rfl⟩ | exact ⟨_, rfl, _, rfl, _, rfl, rfl⟩) hargsR rfl rfl (Go.AE.F.tbLe W) (by
    show (Go.AE.bindO (Go.AE.F.zAP N x0) fun r => some (([(⟨.bool, .imm, r⟩ : Go.AE.Dy)] : List Go.AE.Dy), ([] : List Go.AE.Dy))) = some ([⟨.bool, .imm, true⟩], [])
    rw [hN]
    rfl)
  subst ev0
  refine hcall.mono fun e W' ⟨he, bel⟩ => ?_
  subst he
  exact ⟨_, rfl, _, _, _, [], _, [], hW', trodAll_mk1 (shut_bool Try.underlying4 _), (trodAll_cons_mk (Below.trod laidOut (by kernel_rfl) (of_decide_eq_true (by kernel_rfl)) k0 bel lt0) trodAll_mk0), rfl, bel.frame _, fun h => by cases h⟩
theorem over : Rows.fnExactCodeOfRow.holds Try.pinned (OpenSpec.ofChange Rows.fnExactCodeOfSpec) :=
  OpenClaim.holds_of_wide 3 Try.f3 rfl rfl rfl rfl rfl rfl rfl ⟨rfl, rfl, rfl, rfl, rfl⟩ rfl rfl rfl rfl rfl (by kernel_rfl) Try.func3 (by kernel_rfl)
    (of_decide_eq_true (by kernel_rfl)) (by unfold Func.isWrapper; first | (rw [if_pos (by decide +kernel)]; kernel_rfl) | (rw [if_neg (by decide +kernel)]; exact ⟨rfl, rfl⟩))
    (fun os started H enc _ => lifted os started H enc)
theorem proved : Rows.FnExactCodeOfSaid := over
#print axioms proved
end Go.Proofs.Ytpenpjbobpalcaa.fnExactCodeOf
namespace Go.Proofs.Ytpenpjbobpalcaa
/-- The row, under a short name, for the claim. -/
theorem fnExactCodeOf_holds : Rows.FnExactCodeOfSaid := fnExactCodeOf.proved
end Go.Proofs.Ytpenpjbobpalcaa
