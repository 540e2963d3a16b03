/- The law FnViBack returns true for every input, and leaves its arguments as they were; no condition. -/
import Derived.Test.YtcgbobehdjgjpaaGreatRows
import Derived.Test.YtcgbobehdjgjpaaGreatA5
import Derived.Test.YtcgbobehdjgjpaaGreatLViBackL8
import Derived.Test.YtcgbobehdjgjpaaGreatLViBackP14
import Derived.WalkKit
import Derived.ProofKit
import Derived.OpenShut
import Derived.ShutString
import Derived.ChangeOld
import Derived.Below
import Derived.SizedLaws
namespace Go.Proofs.YtcgbobehdjgjpaaGreat.fnViBack
open Go.ChangeShapes Go.WideShapes Go.ChangeAt Go.RowKit
open Go.ChangeMaps (open_string shut_string)
theorem own : ownKnob Tryz.prog.godebug = none := by kernel_rfl
theorem laidOut : laidOutB Tryz.prog = true := by kernel_rfl
set_option maxRecDepth 100000 in
theorem lifted (os : Os) (started : os.Started) (H : Type) (enc : TypeId × Value → H) :
    ReturnsInHanded {} Tryz.checked os 3 .any (Rows.fnViBackSpec.pre6 enc Tryz.prog Tryz.f3 Rows.fnViBackRow.domain false) (Rows.fnViBackSpec.post enc Tryz.prog Tryz.f3 false true false false) := by
  refine returnsInHanded_of_change_sized (C := Tryz.checked) own started (by kernel_rfl) Tryz.func3
    (ChangeSpec.witness6 (enc := enc) (C := Tryz.checked) false ⟨#[], #[.slice none 0 0, .slice none 0 0], []⟩ 8 (by kernel_rfl) (by kernel_rfl) (by kernel_rfl) (by kernel_rfl)) ?_
  intro W base args ds gs before hval0 hW hcnd hsz0 _
  have hval : ∀ (j : Nat) t v, Tryz.f3.params[j]? = some t → args[j]? = some v → Value.okWide Tryz.prog W .any base t v := hval0
  have hW' := hW
  obtain ⟨p, q, hA0, hV, rfl, hfz, hnd⟩ := hW
  have hA : DataW.TrodAll enc Tryz.prog W 0 (fun _ => true) true Tryz.f3.params.toList args.toList ds p := hA0
  rw [Tryz.params3] at hA hval
  obtain ⟨v0, vs0, d0, ds0, p0, q0, hargs, rfl, rfl, h0, r0⟩ := trodAll_cons hA
  obtain ⟨v1, vs1, d1, ds1, p1, q1, rfl, rfl, rfl, h1, r1⟩ := trodAll_cons r0
  obtain ⟨rfl, rfl, rfl⟩ := trodAll_nil r1
  obtain rfl : args = #[v0, v1] := by cases args; simp_all
  obtain ⟨rfl, rfl⟩ := trodVars_none hV
  obtain ⟨c0, x0, ev0, rep0, wf0⟩ := Go.AE.open_arg (s := (.sl 5 (.int .u8))) (by kernel_rfl) (hval 0 22 v0 rfl rfl) h0
  have k0 := h0
  have lt0 : ∀ x ∈ p0, x.block < W.heap.size := by obtain ⟨m, hm⟩ := k0; exact DataW.trod_lt m _ _ _ hm
  obtain ⟨c1, x1, ev1, rep1, wf1⟩ := Go.AE.open_arg (s := (.sl 5 (.int .u8))) (by kernel_rfl) (hval 1 22 v1 rfl rfl) h1
  have k1 := h1
  have lt1 : ∀ x ∈ p1, x.block < W.heap.size := by obtain ⟨m, hm⟩ := k1; exact DataW.trod_lt m _ _ _ hm
  have hargsR : Go.AE.ArgsRep (Go.AE.memOf W) [.v, .v] [⟨(.sl 5 (.int .u8)), .imm, x0⟩, ⟨(.sl 5 (.int .u8)), .imm, x1⟩] [Go.AE.mkVal (.sl 5 (.int .u8)) c0, Go.AE.mkVal (.sl 5 (.int .u8)) c1] Go.AE.Hp.e := (Go.AE.argsRep_v rep0 (Go.AE.argsRep_v rep1 Go.AE.argsRep_nil))
  obtain ⟨N, hN⟩ := Go.AE.F.pure_FnViBack x0 wf0 x1 wf1
  have hcall := Go.AE.law_calls (vs := [Go.AE.mkVal (.sl 5 (.int .u8)) c0, Go.AE.mkVal (.sl 5 (.int .u8)) c1]) (o := .imm) (Go.AE.F.zCI.ok N) (by first | rfl | exact ⟨_, rfl, rfl⟩ | exact ⟨_, rfl, _, rfl, rfl⟩ | exact ⟨_, rfl, _, rfl, _, rfl, rfl⟩) hargsR rfl (by
    show (Go.AE.bindO (Go.AE.F.zCI N x0 x1) fun r => some (([(⟨.bool, .imm, r⟩ : Go.AE.Dy)] : List Go.AE.Dy), ([] : List Go.AE.Dy))) = some ([⟨.bool, .imm, true⟩], [])
    rw [hN]
    rfl)
  subst ev0 ev1
  refine hcall.mono fun e W' ⟨he, bel⟩ => ?_
  subst he
  exact ⟨_, rfl, _, _, _, [], _, [], hW', trodAll_mk1 (shut_bool Tryz.underlying4 _), (trodAll_cons_mk (Below.trod laidOut (by kernel_rfl) (of_decide_eq_true (by kernel_rfl)) k0 bel lt0) (trodAll_cons_mk (Below.trod laidOut (by kernel_rfl) (of_decide_eq_true (by kernel_rfl)) k1 bel lt1) trodAll_mk0)), rfl, bel.frame _, fun h => by cases h⟩
theorem over : Rows.fnViBackRow.holds Tryz.pinned (OpenSpec.ofChange Rows.fnViBackSpec) :=
  OpenClaim.holds_of_wide 3 Tryz.f3 rfl rfl rfl rfl rfl rfl rfl ⟨rfl, rfl, rfl, rfl, rfl⟩ rfl rfl rfl rfl rfl (by kernel_rfl) Tryz.func3 (by kernel_rfl)
    (of_decide_eq_true (by kernel_rfl)) (by unfold Func.isWrapper; first | (rw [if_pos (by decide +kernel)]; kernel_rfl) | (rw [if_neg (by decide +kernel)]; exact ⟨rfl, rfl⟩))
    (fun os started H enc _ => lifted os started H enc)
theorem proved : Rows.FnViBackSaid := over
#print axioms proved
end Go.Proofs.YtcgbobehdjgjpaaGreat.fnViBack
namespace Go.Proofs.YtcgbobehdjgjpaaGreat
/-- The row, under a short name, for the claim. -/
theorem fnViBack_holds : Rows.FnViBackSaid := fnViBack.proved
end Go.Proofs.YtcgbobehdjgjpaaGreat
