/-
  No cell of these rows narrows 'for every input' (looked for: loops, veiled, ifaces, maps, wideKeys, modest, calm, conditions, laid).
  DERIVED. THE GIVEN ROWS OF THIS SEAT. 12 by the template 'for every input the law returns true; each argument reads behind the call as it read before'; 0 by the template 'total and deterministic' (their statements: YtlkpikakncnjfaaTotals.lean).
  GIVEN WITH THE SEED: the statements are not yours to turn. If you find one false, say at which input.
  Laid BY PROGRAM, IN A SANDBOX (cutbox-rows.mjs): the forced cells as the released guide's own fill.sh prints them over the translation ab4a7baa54c66626… (all of the seat's roots in one cut). By AI agents, Wed Nov 11 2026. No macro, syntax, notation, axiom, sorry.
-/
import Derived.Test.YtlkpikakncnjfaaChecked
import GoSem.Claim
import GoSem.ClaimJoined
import GoSem.ClaimMapViews
import Derived.JoinedTies
import Derived.KernelRfl
namespace Go.Proofs.Ytlkpikakncnjfaa
/- THE CELL 'sum', in the pinned program and in every row, IS THE sha256 OF THE DUMP (.gsa) THAT YtlkpikakncnjfaaProg.lean LOADS. Nothing in Lean hashes anything: it is a label: what it is worth is what the hold of that sum in a sandbox is worth. -/
noncomputable def Try.pinned : Pinned := { name := "ytlkpikakncnjfaa", sum := "ab4a7baa54c66626383cff0453b3d91a311cbb4cacee476d1061ce8104b80069", checked := Try.checked }
namespace Rows
def none {H : Type} : Left H := { results := [], args := [] }

/-- 'laws.FnExactWordAhead': WHATEVER THE INPUT: true; the input reads as it did. -/
def fnExactWordAheadSpec : ChangeSpec := { name := "fnExactWordAhead", fn := fun _ => fun
  | [d] => { results := [.lit (.bool true)], args := [d] }
  | _ => none }
def fnExactWordAheadRow : OpenClaim := { program := "ytlkpikakncnjfaa", sum := "ab4a7baa54c66626383cff0453b3d91a311cbb4cacee476d1061ce8104b80069", func := "loop.example/g00146/laws.FnExactWordAhead", spec := "fnExactWordAhead", unfollowed := true, recurses := true, apart := false }
def FnExactWordAheadSaid : Prop := fnExactWordAheadRow.holds Try.pinned (OpenSpec.ofChange fnExactWordAheadSpec)

/-- ITS FALSE NEIGHBOUR: 'it returns false'. Refute it at one input. -/
def fnExactWordAheadWrong : ChangeSpec := { name := "fnExactWordAhead", fn := fun _ => fun
  | [d] => { results := [.lit (.bool false)], args := [d] }
  | _ => none }
def FnExactWordAheadWrongFalsely : Prop := fnExactWordAheadRow.holds Try.pinned (OpenSpec.ofChange fnExactWordAheadWrong)

/-- 'laws.FnExactCodeRight': WHATEVER THE INPUT: true; the input reads as it did. -/
def fnExactCodeRightSpec : ChangeSpec := { name := "fnExactCodeRight", fn := fun _ => fun
  | [d] => { results := [.lit (.bool true)], args := [d] }
  | _ => none }
def fnExactCodeRightRow : OpenClaim := { program := "ytlkpikakncnjfaa", sum := "ab4a7baa54c66626383cff0453b3d91a311cbb4cacee476d1061ce8104b80069", func := "loop.example/g00146/laws.FnExactCodeRight", spec := "fnExactCodeRight", unfollowed := true, recurses := true, apart := false }
def FnExactCodeRightSaid : Prop := fnExactCodeRightRow.holds Try.pinned (OpenSpec.ofChange fnExactCodeRightSpec)

/-- ITS FALSE NEIGHBOUR: 'it returns false'. Refute it at one input. -/
def fnExactCodeRightWrong : ChangeSpec := { name := "fnExactCodeRight", fn := fun _ => fun
  | [d] => { results := [.lit (.bool false)], args := [d] }
  | _ => none }
def FnExactCodeRightWrongFalsely : Prop := fnExactCodeRightRow.holds Try.pinned (OpenSpec.ofChange fnExactCodeRightWrong)

/-- 'laws.FnExactOpsUsed': WHATEVER THE INPUT: true; the input reads as it did. -/
def fnExactOpsUsedSpec : ChangeSpec := { name := "fnExactOpsUsed", fn := fun _ => fun
  | [d] => { results := [.lit (.bool true)], args := [d] }
  | _ => none }
def fnExactOpsUsedRow : OpenClaim := { program := "ytlkpikakncnjfaa", sum := "ab4a7baa54c66626383cff0453b3d91a311cbb4cacee476d1061ce8104b80069", func := "loop.example/g00146/laws.FnExactOpsUsed", spec := "fnExactOpsUsed", unfollowed := true, recurses := true, apart := false }
def FnExactOpsUsedSaid : Prop := fnExactOpsUsedRow.holds Try.pinned (OpenSpec.ofChange fnExactOpsUsedSpec)

/-- ITS FALSE NEIGHBOUR: 'it returns false'. Refute it at one input. -/
def fnExactOpsUsedWrong : ChangeSpec := { name := "fnExactOpsUsed", fn := fun _ => fun
  | [d] => { results := [.lit (.bool false)], args := [d] }
  | _ => none }
def FnExactOpsUsedWrongFalsely : Prop := fnExactOpsUsedRow.holds Try.pinned (OpenSpec.ofChange fnExactOpsUsedWrong)

/-- 'laws.FnExactCodeDepths': WHATEVER THE INPUT: true; the input reads as it did. -/
def fnExactCodeDepthsSpec : ChangeSpec := { name := "fnExactCodeDepths", fn := fun _ => fun
  | [d] => { results := [.lit (.bool true)], args := [d] }
  | _ => none }
def fnExactCodeDepthsRow : OpenClaim := { program := "ytlkpikakncnjfaa", sum := "ab4a7baa54c66626383cff0453b3d91a311cbb4cacee476d1061ce8104b80069", func := "loop.example/g00146/laws.FnExactCodeDepths", spec := "fnExactCodeDepths", unfollowed := true, recurses := true, apart := false }
def FnExactCodeDepthsSaid : Prop := fnExactCodeDepthsRow.holds Try.pinned (OpenSpec.ofChange fnExactCodeDepthsSpec)

/-- ITS FALSE NEIGHBOUR: 'it returns false'. Refute it at one input. -/
def fnExactCodeDepthsWrong : ChangeSpec := { name := "fnExactCodeDepths", fn := fun _ => fun
  | [d] => { results := [.lit (.bool false)], args := [d] }
  | _ => none }
def FnExactCodeDepthsWrongFalsely : Prop := fnExactCodeDepthsRow.holds Try.pinned (OpenSpec.ofChange fnExactCodeDepthsWrong)

/-- 'laws.FnComplete': WHATEVER THE INPUT: true; the input reads as it did. -/
def fnCompleteSpec : ChangeSpec := { name := "fnComplete", fn := fun _ => fun
  | [d] => { results := [.lit (.bool true)], args := [d] }
  | _ => none }
def fnCompleteRow : OpenClaim := { program := "ytlkpikakncnjfaa", sum := "ab4a7baa54c66626383cff0453b3d91a311cbb4cacee476d1061ce8104b80069", func := "loop.example/g00146/laws.FnComplete", spec := "fnComplete", unfollowed := true, recurses := true, apart := false }
def FnCompleteSaid : Prop := fnCompleteRow.holds Try.pinned (OpenSpec.ofChange fnCompleteSpec)

/-- ITS FALSE NEIGHBOUR: 'it returns false'. Refute it at one input. -/
def fnCompleteWrong : ChangeSpec := { name := "fnComplete", fn := fun _ => fun
  | [d] => { results := [.lit (.bool false)], args := [d] }
  | _ => none }
def FnCompleteWrongFalsely : Prop := fnCompleteRow.holds Try.pinned (OpenSpec.ofChange fnCompleteWrong)

/-- 'laws.FnHistory': WHATEVER THE INPUT: true; the input reads as it did. -/
def fnHistorySpec : ChangeSpec := { name := "fnHistory", fn := fun _ => fun
  | [d1, d2] => { results := [.lit (.bool true)], args := [d1, d2] }
  | _ => none }
def fnHistoryRow : OpenClaim := { program := "ytlkpikakncnjfaa", sum := "ab4a7baa54c66626383cff0453b3d91a311cbb4cacee476d1061ce8104b80069", func := "loop.example/g00146/laws.FnHistory", spec := "fnHistory", unfollowed := true, recurses := true, apart := false }
def FnHistorySaid : Prop := fnHistoryRow.holds Try.pinned (OpenSpec.ofChange fnHistorySpec)

/-- ITS FALSE NEIGHBOUR: 'it returns false'. Refute it at one input. -/
def fnHistoryWrong : ChangeSpec := { name := "fnHistory", fn := fun _ => fun
  | [d1, d2] => { results := [.lit (.bool false)], args := [d1, d2] }
  | _ => none }
def FnHistoryWrongFalsely : Prop := fnHistoryRow.holds Try.pinned (OpenSpec.ofChange fnHistoryWrong)

/-- 'laws.FnSpots': WHATEVER THE INPUT: true; the input reads as it did. -/
def fnSpotsSpec : ChangeSpec := { name := "fnSpots", fn := fun _ => fun
  | [d] => { results := [.lit (.bool true)], args := [d] }
  | _ => none }
def fnSpotsRow : OpenClaim := { program := "ytlkpikakncnjfaa", sum := "ab4a7baa54c66626383cff0453b3d91a311cbb4cacee476d1061ce8104b80069", func := "loop.example/g00146/laws.FnSpots", spec := "fnSpots", unfollowed := true, recurses := true, apart := false }
def FnSpotsSaid : Prop := fnSpotsRow.holds Try.pinned (OpenSpec.ofChange fnSpotsSpec)

/-- ITS FALSE NEIGHBOUR: 'it returns false'. Refute it at one input. -/
def fnSpotsWrong : ChangeSpec := { name := "fnSpots", fn := fun _ => fun
  | [d] => { results := [.lit (.bool false)], args := [d] }
  | _ => none }
def FnSpotsWrongFalsely : Prop := fnSpotsRow.holds Try.pinned (OpenSpec.ofChange fnSpotsWrong)

/-- 'laws.FnExactRingPush': WHATEVER THE INPUT: true; the input reads as it did. -/
def fnExactRingPushSpec : ChangeSpec := { name := "fnExactRingPush", fn := fun _ => fun
  | [d1, d2] => { results := [.lit (.bool true)], args := [d1, d2] }
  | _ => none }
def fnExactRingPushRow : OpenClaim := { program := "ytlkpikakncnjfaa", sum := "ab4a7baa54c66626383cff0453b3d91a311cbb4cacee476d1061ce8104b80069", func := "loop.example/g00146/laws.FnExactRingPush", spec := "fnExactRingPush", inPlace := ["slices.overlaps[[]int64]"], unfollowed := true, recurses := true, apart := false }
def FnExactRingPushSaid : Prop := fnExactRingPushRow.holds Try.pinned (OpenSpec.ofChange fnExactRingPushSpec)

/-- ITS FALSE NEIGHBOUR: 'it returns false'. Refute it at one input. -/
def fnExactRingPushWrong : ChangeSpec := { name := "fnExactRingPush", fn := fun _ => fun
  | [d1, d2] => { results := [.lit (.bool false)], args := [d1, d2] }
  | _ => none }
def FnExactRingPushWrongFalsely : Prop := fnExactRingPushRow.holds Try.pinned (OpenSpec.ofChange fnExactRingPushWrong)

/-- 'laws.FnRing': WHATEVER THE INPUT: true; the input reads as it did. -/
def fnRingSpec : ChangeSpec := { name := "fnRing", fn := fun _ => fun
  | [d] => { results := [.lit (.bool true)], args := [d] }
  | _ => none }
def fnRingRow : OpenClaim := { program := "ytlkpikakncnjfaa", sum := "ab4a7baa54c66626383cff0453b3d91a311cbb4cacee476d1061ce8104b80069", func := "loop.example/g00146/laws.FnRing", spec := "fnRing", inPlace := ["slices.overlaps[[]int64]"], unfollowed := true, recurses := true, apart := false }
def FnRingSaid : Prop := fnRingRow.holds Try.pinned (OpenSpec.ofChange fnRingSpec)

/-- ITS FALSE NEIGHBOUR: 'it returns false'. Refute it at one input. -/
def fnRingWrong : ChangeSpec := { name := "fnRing", fn := fun _ => fun
  | [d] => { results := [.lit (.bool false)], args := [d] }
  | _ => none }
def FnRingWrongFalsely : Prop := fnRingRow.holds Try.pinned (OpenSpec.ofChange fnRingWrong)

/-- 'laws.FnYank': WHATEVER THE INPUT: true; the input reads as it did. -/
def fnYankSpec : ChangeSpec := { name := "fnYank", fn := fun _ => fun
  | [d] => { results := [.lit (.bool true)], args := [d] }
  | _ => none }
def fnYankRow : OpenClaim := { program := "ytlkpikakncnjfaa", sum := "ab4a7baa54c66626383cff0453b3d91a311cbb4cacee476d1061ce8104b80069", func := "loop.example/g00146/laws.FnYank", spec := "fnYank", unfollowed := true, recurses := true, apart := false }
def FnYankSaid : Prop := fnYankRow.holds Try.pinned (OpenSpec.ofChange fnYankSpec)

/-- ITS FALSE NEIGHBOUR: 'it returns false'. Refute it at one input. -/
def fnYankWrong : ChangeSpec := { name := "fnYank", fn := fun _ => fun
  | [d] => { results := [.lit (.bool false)], args := [d] }
  | _ => none }
def FnYankWrongFalsely : Prop := fnYankRow.holds Try.pinned (OpenSpec.ofChange fnYankWrong)

/-- 'laws.FnUndoAll': WHATEVER THE INPUT: true; the input reads as it did. -/
def fnUndoAllSpec : ChangeSpec := { name := "fnUndoAll", fn := fun _ => fun
  | [d] => { results := [.lit (.bool true)], args := [d] }
  | _ => none }
def fnUndoAllRow : OpenClaim := { program := "ytlkpikakncnjfaa", sum := "ab4a7baa54c66626383cff0453b3d91a311cbb4cacee476d1061ce8104b80069", func := "loop.example/g00146/laws.FnUndoAll", spec := "fnUndoAll", unfollowed := true, recurses := true, apart := false }
def FnUndoAllSaid : Prop := fnUndoAllRow.holds Try.pinned (OpenSpec.ofChange fnUndoAllSpec)

/-- ITS FALSE NEIGHBOUR: 'it returns false'. Refute it at one input. -/
def fnUndoAllWrong : ChangeSpec := { name := "fnUndoAll", fn := fun _ => fun
  | [d] => { results := [.lit (.bool false)], args := [d] }
  | _ => none }
def FnUndoAllWrongFalsely : Prop := fnUndoAllRow.holds Try.pinned (OpenSpec.ofChange fnUndoAllWrong)

/-- 'laws.FnExactEdNames': WHATEVER THE INPUT: true; the input reads as it did. -/
def fnExactEdNamesSpec : ChangeSpec := { name := "fnExactEdNames", fn := fun _ => fun
  | [] => { results := [.lit (.bool true)], args := [] }
  | _ => none }
def fnExactEdNamesRow : OpenClaim := { program := "ytlkpikakncnjfaa", sum := "ab4a7baa54c66626383cff0453b3d91a311cbb4cacee476d1061ce8104b80069", func := "loop.example/g00146/laws.FnExactEdNames", spec := "fnExactEdNames", recurses := true, apart := false }
def FnExactEdNamesSaid : Prop := fnExactEdNamesRow.holds Try.pinned (OpenSpec.ofChange fnExactEdNamesSpec)

/-- ITS FALSE NEIGHBOUR: 'it returns false'. Refute it at one input. -/
def fnExactEdNamesWrong : ChangeSpec := { name := "fnExactEdNames", fn := fun _ => fun
  | [] => { results := [.lit (.bool false)], args := [] }
  | _ => none }
def FnExactEdNamesWrongFalsely : Prop := fnExactEdNamesRow.holds Try.pinned (OpenSpec.ofChange fnExactEdNamesWrong)

/- THE SECOND FORM. 'bulk': how many values and letters a reading holds, each counted each time it is reached (what is shared counts as often as it is met; a slice's spare places count too). A statement '..UptoSaid' is the law's where the arguments, and the package variables that the reading takes, are together of bulk at most 1048576: NARROWER than '..Said'. Prove '..Said' where nothing that the law and all that it calls make is longer than what came in: it says more and counts as full. Else prove '..UptoSaid'. A law counts once. -/
mutual
def uptoBulk {H : Type} : DataW H → Nat
  | .lit (.string bytes) => bytes.length + 1
  | .lit _ => 1
  | .nil => 1
  | .ptr d => uptoBulk d + 1
  | .slice elems spare => uptoBulkAll elems + uptoBulkAll spare + 1
  | .agg parts => uptoBulkAll parts + 1
  | .iface _ d => uptoBulk d + 1
  | .map entries => uptoBulkEntries entries + 1
  | .held _ => 1
def uptoBulkAll {H : Type} : List (DataW H) → Nat
  | [] => 0
  | d :: r => uptoBulk d + uptoBulkAll r
def uptoBulkEntries {H : Type} : List (Lit × DataW H) → Nat
  | [] => 0
  | x :: r => uptoBulkEntry x + uptoBulkEntries r
def uptoBulkEntry {H : Type} : Lit × DataW H → Nat
  | (.string bytes, d) => bytes.length + uptoBulk d + 1
  | (_, d) => uptoBulk d + 1
 end
def uptoSmall : (H : Type) → List (DataW H) → Bool := fun _ ds => decide (uptoBulkAll ds ≤ 1048576)
def OpenSpec.upto (s : _root_.Go.ChangeSpec) : _root_.Go.OpenSpec := { _root_.Go.OpenSpec.ofChange s with cond := some uptoSmall }

/-- 'laws.FnExactWordAhead', WHERE WHAT IT READS IS OF BULK AT MOST 1048576: true; the input reads as it did. -/
def fnExactWordAheadUptoRow : OpenClaim := { program := "ytlkpikakncnjfaa", sum := "ab4a7baa54c66626383cff0453b3d91a311cbb4cacee476d1061ce8104b80069", func := "loop.example/g00146/laws.FnExactWordAhead", spec := "fnExactWordAhead", unfollowed := true, recurses := true, apart := false, narrowed := true }
def FnExactWordAheadUptoSaid : Prop := fnExactWordAheadUptoRow.holds Try.pinned (OpenSpec.upto fnExactWordAheadSpec)

/-- 'laws.FnExactCodeRight', WHERE WHAT IT READS IS OF BULK AT MOST 1048576: true; the input reads as it did. -/
def fnExactCodeRightUptoRow : OpenClaim := { program := "ytlkpikakncnjfaa", sum := "ab4a7baa54c66626383cff0453b3d91a311cbb4cacee476d1061ce8104b80069", func := "loop.example/g00146/laws.FnExactCodeRight", spec := "fnExactCodeRight", unfollowed := true, recurses := true, apart := false, narrowed := true }
def FnExactCodeRightUptoSaid : Prop := fnExactCodeRightUptoRow.holds Try.pinned (OpenSpec.upto fnExactCodeRightSpec)

/-- 'laws.FnExactOpsUsed', WHERE WHAT IT READS IS OF BULK AT MOST 1048576: true; the input reads as it did. -/
def fnExactOpsUsedUptoRow : OpenClaim := { program := "ytlkpikakncnjfaa", sum := "ab4a7baa54c66626383cff0453b3d91a311cbb4cacee476d1061ce8104b80069", func := "loop.example/g00146/laws.FnExactOpsUsed", spec := "fnExactOpsUsed", unfollowed := true, recurses := true, apart := false, narrowed := true }
def FnExactOpsUsedUptoSaid : Prop := fnExactOpsUsedUptoRow.holds Try.pinned (OpenSpec.upto fnExactOpsUsedSpec)

/-- 'laws.FnExactCodeDepths', WHERE WHAT IT READS IS OF BULK AT MOST 1048576: true; the input reads as it did. -/
def fnExactCodeDepthsUptoRow : OpenClaim := { program := "ytlkpikakncnjfaa", sum := "ab4a7baa54c66626383cff0453b3d91a311cbb4cacee476d1061ce8104b80069", func := "loop.example/g00146/laws.FnExactCodeDepths", spec := "fnExactCodeDepths", unfollowed := true, recurses := true, apart := false, narrowed := true }
def FnExactCodeDepthsUptoSaid : Prop := fnExactCodeDepthsUptoRow.holds Try.pinned (OpenSpec.upto fnExactCodeDepthsSpec)

/-- 'laws.FnComplete', WHERE WHAT IT READS IS OF BULK AT MOST 1048576: true; the input reads as it did. -/
def fnCompleteUptoRow : OpenClaim := { program := "ytlkpikakncnjfaa", sum := "ab4a7baa54c66626383cff0453b3d91a311cbb4cacee476d1061ce8104b80069", func := "loop.example/g00146/laws.FnComplete", spec := "fnComplete", unfollowed := true, recurses := true, apart := false, narrowed := true }
def FnCompleteUptoSaid : Prop := fnCompleteUptoRow.holds Try.pinned (OpenSpec.upto fnCompleteSpec)

/-- 'laws.FnHistory', WHERE WHAT IT READS IS OF BULK AT MOST 1048576: true; the input reads as it did. -/
def fnHistoryUptoRow : OpenClaim := { program := "ytlkpikakncnjfaa", sum := "ab4a7baa54c66626383cff0453b3d91a311cbb4cacee476d1061ce8104b80069", func := "loop.example/g00146/laws.FnHistory", spec := "fnHistory", unfollowed := true, recurses := true, apart := false, narrowed := true }
def FnHistoryUptoSaid : Prop := fnHistoryUptoRow.holds Try.pinned (OpenSpec.upto fnHistorySpec)

/-- 'laws.FnSpots', WHERE WHAT IT READS IS OF BULK AT MOST 1048576: true; the input reads as it did. -/
def fnSpotsUptoRow : OpenClaim := { program := "ytlkpikakncnjfaa", sum := "ab4a7baa54c66626383cff0453b3d91a311cbb4cacee476d1061ce8104b80069", func := "loop.example/g00146/laws.FnSpots", spec := "fnSpots", unfollowed := true, recurses := true, apart := false, narrowed := true }
def FnSpotsUptoSaid : Prop := fnSpotsUptoRow.holds Try.pinned (OpenSpec.upto fnSpotsSpec)

/-- 'laws.FnExactRingPush', WHERE WHAT IT READS IS OF BULK AT MOST 1048576: true; the input reads as it did. -/
def fnExactRingPushUptoRow : OpenClaim := { program := "ytlkpikakncnjfaa", sum := "ab4a7baa54c66626383cff0453b3d91a311cbb4cacee476d1061ce8104b80069", func := "loop.example/g00146/laws.FnExactRingPush", spec := "fnExactRingPush", inPlace := ["slices.overlaps[[]int64]"], unfollowed := true, recurses := true, apart := false, narrowed := true }
def FnExactRingPushUptoSaid : Prop := fnExactRingPushUptoRow.holds Try.pinned (OpenSpec.upto fnExactRingPushSpec)

/-- 'laws.FnRing', WHERE WHAT IT READS IS OF BULK AT MOST 1048576: true; the input reads as it did. -/
def fnRingUptoRow : OpenClaim := { program := "ytlkpikakncnjfaa", sum := "ab4a7baa54c66626383cff0453b3d91a311cbb4cacee476d1061ce8104b80069", func := "loop.example/g00146/laws.FnRing", spec := "fnRing", inPlace := ["slices.overlaps[[]int64]"], unfollowed := true, recurses := true, apart := false, narrowed := true }
def FnRingUptoSaid : Prop := fnRingUptoRow.holds Try.pinned (OpenSpec.upto fnRingSpec)

/-- 'laws.FnYank', WHERE WHAT IT READS IS OF BULK AT MOST 1048576: true; the input reads as it did. -/
def fnYankUptoRow : OpenClaim := { program := "ytlkpikakncnjfaa", sum := "ab4a7baa54c66626383cff0453b3d91a311cbb4cacee476d1061ce8104b80069", func := "loop.example/g00146/laws.FnYank", spec := "fnYank", unfollowed := true, recurses := true, apart := false, narrowed := true }
def FnYankUptoSaid : Prop := fnYankUptoRow.holds Try.pinned (OpenSpec.upto fnYankSpec)

/-- 'laws.FnUndoAll', WHERE WHAT IT READS IS OF BULK AT MOST 1048576: true; the input reads as it did. -/
def fnUndoAllUptoRow : OpenClaim := { program := "ytlkpikakncnjfaa", sum := "ab4a7baa54c66626383cff0453b3d91a311cbb4cacee476d1061ce8104b80069", func := "loop.example/g00146/laws.FnUndoAll", spec := "fnUndoAll", unfollowed := true, recurses := true, apart := false, narrowed := true }
def FnUndoAllUptoSaid : Prop := fnUndoAllUptoRow.holds Try.pinned (OpenSpec.upto fnUndoAllSpec)

/-- 'laws.FnExactEdNames', WHERE WHAT IT READS IS OF BULK AT MOST 1048576: true; the input reads as it did. -/
def fnExactEdNamesUptoRow : OpenClaim := { program := "ytlkpikakncnjfaa", sum := "ab4a7baa54c66626383cff0453b3d91a311cbb4cacee476d1061ce8104b80069", func := "loop.example/g00146/laws.FnExactEdNames", spec := "fnExactEdNames", recurses := true, apart := false, narrowed := true }
def FnExactEdNamesUptoSaid : Prop := fnExactEdNamesUptoRow.holds Try.pinned (OpenSpec.upto fnExactEdNamesSpec)

end Rows
end Go.Proofs.Ytlkpikakncnjfaa
