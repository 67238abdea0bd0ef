/-
  No cell of these rows narrows 'for every input' (looked for: loops, veiled, ifaces, maps, wideKeys, modest, calm, conditions, laid).
  DERIVED. THE GIVEN ROWS OF THIS SEAT. 6 by the template 'for every input the law returns true; each argument reads behind the call as it read before'; 0 by the template 'total and deterministic' (their statements: YtedjibjmbgllkaaTotals.lean).
  GIVEN WITH THE SEED: the statements are not yours to turn. If you find one false, say at which input.
  Laid BY PROGRAM, IN A SANDBOX (cutbox-rows.mjs): the forced cells as the released guide's own fill.sh prints them over the translation 64adc20d0b2cedc3… (all of the seat's roots in one cut). By AI agents, Wed Nov 11 2026. No macro, syntax, notation, axiom, sorry.
-/
import Derived.Test.YtedjibjmbgllkaaChecked
import GoSem.Claim
import GoSem.ClaimJoined
import GoSem.ClaimMapViews
import Derived.JoinedTies
import Derived.KernelRfl
namespace Go.Proofs.Ytedjibjmbgllkaa
/- THE CELL 'sum', in the pinned program and in every row, IS THE sha256 OF THE DUMP (.gsa) THAT YtedjibjmbgllkaaProg.lean LOADS. Nothing in Lean hashes anything: it is a label: what it is worth is what the hold of that sum in a sandbox is worth. -/
noncomputable def Try.pinned : Pinned := { name := "ytedjibjmbgllkaa", sum := "64adc20d0b2cedc320bc143fb3875248a8c125be01d1646c4f7143c128555761", checked := Try.checked }
namespace Rows
def none {H : Type} : Left H := { results := [], args := [] }

/-- 'skiarealaw27.RevokeRights': WHATEVER THE INPUT: true; the input reads as it did. -/
def revokeRightsSpec : ChangeSpec := { name := "revokeRights", fn := fun _ => fun
  | [d1, d2] => { results := [.lit (.bool true)], args := [d1, d2] }
  | _ => none }
def revokeRightsRow : OpenClaim := { program := "ytedjibjmbgllkaa", sum := "64adc20d0b2cedc320bc143fb3875248a8c125be01d1646c4f7143c128555761", func := "skiarea/skiarealaw27.RevokeRights", spec := "revokeRights", unfollowed := true, recurses := true, apart := false }
def RevokeRightsSaid : Prop := revokeRightsRow.holds Try.pinned (OpenSpec.ofChange revokeRightsSpec)

/-- ITS FALSE NEIGHBOUR: 'it returns false'. Refute it at one input. -/
def revokeRightsWrong : ChangeSpec := { name := "revokeRights", fn := fun _ => fun
  | [d1, d2] => { results := [.lit (.bool false)], args := [d1, d2] }
  | _ => none }
def RevokeRightsWrongFalsely : Prop := revokeRightsRow.holds Try.pinned (OpenSpec.ofChange revokeRightsWrong)

/-- 'skiarealaw27.RevokeChanges': WHATEVER THE INPUT: true; the input reads as it did. -/
def revokeChangesSpec : ChangeSpec := { name := "revokeChanges", fn := fun _ => fun
  | [d1, d2, d3] => { results := [.lit (.bool true)], args := [d1, d2, d3] }
  | _ => none }
def revokeChangesRow : OpenClaim := { program := "ytedjibjmbgllkaa", sum := "64adc20d0b2cedc320bc143fb3875248a8c125be01d1646c4f7143c128555761", func := "skiarea/skiarealaw27.RevokeChanges", spec := "revokeChanges", unfollowed := true, recurses := true, apart := false }
def RevokeChangesSaid : Prop := revokeChangesRow.holds Try.pinned (OpenSpec.ofChange revokeChangesSpec)

/-- ITS FALSE NEIGHBOUR: 'it returns false'. Refute it at one input. -/
def revokeChangesWrong : ChangeSpec := { name := "revokeChanges", fn := fun _ => fun
  | [d1, d2, d3] => { results := [.lit (.bool false)], args := [d1, d2, d3] }
  | _ => none }
def RevokeChangesWrongFalsely : Prop := revokeChangesRow.holds Try.pinned (OpenSpec.ofChange revokeChangesWrong)

/-- 'skiarealaw27.RevokeDiffs': WHATEVER THE INPUT: true; the input reads as it did. -/
def revokeDiffsSpec : ChangeSpec := { name := "revokeDiffs", fn := fun _ => fun
  | [d1, d2, d3] => { results := [.lit (.bool true)], args := [d1, d2, d3] }
  | _ => none }
def revokeDiffsRow : OpenClaim := { program := "ytedjibjmbgllkaa", sum := "64adc20d0b2cedc320bc143fb3875248a8c125be01d1646c4f7143c128555761", func := "skiarea/skiarealaw27.RevokeDiffs", spec := "revokeDiffs", unfollowed := true, recurses := true, apart := false }
def RevokeDiffsSaid : Prop := revokeDiffsRow.holds Try.pinned (OpenSpec.ofChange revokeDiffsSpec)

/-- ITS FALSE NEIGHBOUR: 'it returns false'. Refute it at one input. -/
def revokeDiffsWrong : ChangeSpec := { name := "revokeDiffs", fn := fun _ => fun
  | [d1, d2, d3] => { results := [.lit (.bool false)], args := [d1, d2, d3] }
  | _ => none }
def RevokeDiffsWrongFalsely : Prop := revokeDiffsRow.holds Try.pinned (OpenSpec.ofChange revokeDiffsWrong)

/-- 'skiarealaw27.RevokeApplies': WHATEVER THE INPUT: true; the input reads as it did. -/
def revokeAppliesSpec : ChangeSpec := { name := "revokeApplies", fn := fun _ => fun
  | [d1, d2, d3] => { results := [.lit (.bool true)], args := [d1, d2, d3] }
  | _ => none }
def revokeAppliesRow : OpenClaim := { program := "ytedjibjmbgllkaa", sum := "64adc20d0b2cedc320bc143fb3875248a8c125be01d1646c4f7143c128555761", func := "skiarea/skiarealaw27.RevokeApplies", spec := "revokeApplies", unfollowed := true, recurses := true, apart := false }
def RevokeAppliesSaid : Prop := revokeAppliesRow.holds Try.pinned (OpenSpec.ofChange revokeAppliesSpec)

/-- ITS FALSE NEIGHBOUR: 'it returns false'. Refute it at one input. -/
def revokeAppliesWrong : ChangeSpec := { name := "revokeApplies", fn := fun _ => fun
  | [d1, d2, d3] => { results := [.lit (.bool false)], args := [d1, d2, d3] }
  | _ => none }
def RevokeAppliesWrongFalsely : Prop := revokeAppliesRow.holds Try.pinned (OpenSpec.ofChange revokeAppliesWrong)

/-- 'skiarealaw27.RevokeKeeps': WHATEVER THE INPUT: true; the input reads as it did. -/
def revokeKeepsSpec : ChangeSpec := { name := "revokeKeeps", fn := fun _ => fun
  | [d1, d2, d3] => { results := [.lit (.bool true)], args := [d1, d2, d3] }
  | _ => none }
def revokeKeepsRow : OpenClaim := { program := "ytedjibjmbgllkaa", sum := "64adc20d0b2cedc320bc143fb3875248a8c125be01d1646c4f7143c128555761", func := "skiarea/skiarealaw27.RevokeKeeps", spec := "revokeKeeps", unfollowed := true, recurses := true, apart := false }
def RevokeKeepsSaid : Prop := revokeKeepsRow.holds Try.pinned (OpenSpec.ofChange revokeKeepsSpec)

/-- ITS FALSE NEIGHBOUR: 'it returns false'. Refute it at one input. -/
def revokeKeepsWrong : ChangeSpec := { name := "revokeKeeps", fn := fun _ => fun
  | [d1, d2, d3] => { results := [.lit (.bool false)], args := [d1, d2, d3] }
  | _ => none }
def RevokeKeepsWrongFalsely : Prop := revokeKeepsRow.holds Try.pinned (OpenSpec.ofChange revokeKeepsWrong)

/-- 'skiarealaw27.RevokeSteps': WHATEVER THE INPUT: true; the input reads as it did. -/
def revokeStepsSpec : ChangeSpec := { name := "revokeSteps", fn := fun _ => fun
  | [d1, d2] => { results := [.lit (.bool true)], args := [d1, d2] }
  | _ => none }
def revokeStepsRow : OpenClaim := { program := "ytedjibjmbgllkaa", sum := "64adc20d0b2cedc320bc143fb3875248a8c125be01d1646c4f7143c128555761", func := "skiarea/skiarealaw27.RevokeSteps", spec := "revokeSteps", unfollowed := true, recurses := true, apart := false }
def RevokeStepsSaid : Prop := revokeStepsRow.holds Try.pinned (OpenSpec.ofChange revokeStepsSpec)

/-- ITS FALSE NEIGHBOUR: 'it returns false'. Refute it at one input. -/
def revokeStepsWrong : ChangeSpec := { name := "revokeSteps", fn := fun _ => fun
  | [d1, d2] => { results := [.lit (.bool false)], args := [d1, d2] }
  | _ => none }
def RevokeStepsWrongFalsely : Prop := revokeStepsRow.holds Try.pinned (OpenSpec.ofChange revokeStepsWrong)

/- THE SECOND FORM. 'bulk': how many values and letters a reading holds, each counted each time it is reached (what is shared counts as often as it is met; a slice's spare places count too). A statement '..UptoSaid' is the law's where the arguments, and the package variables that the reading takes, are together of bulk at most 1048576: NARROWER than '..Said'. Prove '..Said' where nothing that the law and all that it calls make is longer than what came in: it says more and counts as full. Else prove '..UptoSaid'. A law counts once. -/
mutual
def uptoBulk {H : Type} : DataW H → Nat
  | .lit (.string bytes) => bytes.length + 1
  | .lit _ => 1
  | .nil => 1
  | .ptr d => uptoBulk d + 1
  | .slice elems spare => uptoBulkAll elems + uptoBulkAll spare + 1
  | .agg parts => uptoBulkAll parts + 1
  | .iface _ d => uptoBulk d + 1
  | .map entries => uptoBulkEntries entries + 1
  | .held _ => 1
def uptoBulkAll {H : Type} : List (DataW H) → Nat
  | [] => 0
  | d :: r => uptoBulk d + uptoBulkAll r
def uptoBulkEntries {H : Type} : List (Lit × DataW H) → Nat
  | [] => 0
  | x :: r => uptoBulkEntry x + uptoBulkEntries r
def uptoBulkEntry {H : Type} : Lit × DataW H → Nat
  | (.string bytes, d) => bytes.length + uptoBulk d + 1
  | (_, d) => uptoBulk d + 1
 end
def uptoSmall : (H : Type) → List (DataW H) → Bool := fun _ ds => decide (uptoBulkAll ds ≤ 1048576)
def OpenSpec.upto (s : _root_.Go.ChangeSpec) : _root_.Go.OpenSpec := { _root_.Go.OpenSpec.ofChange s with cond := some uptoSmall }

/-- 'skiarealaw27.RevokeRights', WHERE WHAT IT READS IS OF BULK AT MOST 1048576: true; the input reads as it did. -/
def revokeRightsUptoRow : OpenClaim := { program := "ytedjibjmbgllkaa", sum := "64adc20d0b2cedc320bc143fb3875248a8c125be01d1646c4f7143c128555761", func := "skiarea/skiarealaw27.RevokeRights", spec := "revokeRights", unfollowed := true, recurses := true, apart := false, narrowed := true }
def RevokeRightsUptoSaid : Prop := revokeRightsUptoRow.holds Try.pinned (OpenSpec.upto revokeRightsSpec)

/-- 'skiarealaw27.RevokeChanges', WHERE WHAT IT READS IS OF BULK AT MOST 1048576: true; the input reads as it did. -/
def revokeChangesUptoRow : OpenClaim := { program := "ytedjibjmbgllkaa", sum := "64adc20d0b2cedc320bc143fb3875248a8c125be01d1646c4f7143c128555761", func := "skiarea/skiarealaw27.RevokeChanges", spec := "revokeChanges", unfollowed := true, recurses := true, apart := false, narrowed := true }
def RevokeChangesUptoSaid : Prop := revokeChangesUptoRow.holds Try.pinned (OpenSpec.upto revokeChangesSpec)

/-- 'skiarealaw27.RevokeDiffs', WHERE WHAT IT READS IS OF BULK AT MOST 1048576: true; the input reads as it did. -/
def revokeDiffsUptoRow : OpenClaim := { program := "ytedjibjmbgllkaa", sum := "64adc20d0b2cedc320bc143fb3875248a8c125be01d1646c4f7143c128555761", func := "skiarea/skiarealaw27.RevokeDiffs", spec := "revokeDiffs", unfollowed := true, recurses := true, apart := false, narrowed := true }
def RevokeDiffsUptoSaid : Prop := revokeDiffsUptoRow.holds Try.pinned (OpenSpec.upto revokeDiffsSpec)

/-- 'skiarealaw27.RevokeApplies', WHERE WHAT IT READS IS OF BULK AT MOST 1048576: true; the input reads as it did. -/
def revokeAppliesUptoRow : OpenClaim := { program := "ytedjibjmbgllkaa", sum := "64adc20d0b2cedc320bc143fb3875248a8c125be01d1646c4f7143c128555761", func := "skiarea/skiarealaw27.RevokeApplies", spec := "revokeApplies", unfollowed := true, recurses := true, apart := false, narrowed := true }
def RevokeAppliesUptoSaid : Prop := revokeAppliesUptoRow.holds Try.pinned (OpenSpec.upto revokeAppliesSpec)

/-- 'skiarealaw27.RevokeKeeps', WHERE WHAT IT READS IS OF BULK AT MOST 1048576: true; the input reads as it did. -/
def revokeKeepsUptoRow : OpenClaim := { program := "ytedjibjmbgllkaa", sum := "64adc20d0b2cedc320bc143fb3875248a8c125be01d1646c4f7143c128555761", func := "skiarea/skiarealaw27.RevokeKeeps", spec := "revokeKeeps", unfollowed := true, recurses := true, apart := false, narrowed := true }
def RevokeKeepsUptoSaid : Prop := revokeKeepsUptoRow.holds Try.pinned (OpenSpec.upto revokeKeepsSpec)

/-- 'skiarealaw27.RevokeSteps', WHERE WHAT IT READS IS OF BULK AT MOST 1048576: true; the input reads as it did. -/
def revokeStepsUptoRow : OpenClaim := { program := "ytedjibjmbgllkaa", sum := "64adc20d0b2cedc320bc143fb3875248a8c125be01d1646c4f7143c128555761", func := "skiarea/skiarealaw27.RevokeSteps", spec := "revokeSteps", unfollowed := true, recurses := true, apart := false, narrowed := true }
def RevokeStepsUptoSaid : Prop := revokeStepsUptoRow.holds Try.pinned (OpenSpec.upto revokeStepsSpec)

end Rows
end Go.Proofs.Ytedjibjmbgllkaa
