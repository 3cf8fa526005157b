/-
  No cell of these rows narrows 'for every input' (looked for: loops, veiled, ifaces, maps, wideKeys, modest, calm, conditions, laid).
  DERIVED. THE GIVEN ROWS OF THIS SEAT. 6 by the template 'for every input the law returns true; each argument reads behind the call as it read before'; 0 by the template 'total and deterministic' (their statements: YtedfihgkopejcaaTotals.lean).
  GIVEN WITH THE SEED: the statements are not yours to turn. If you find one false, say at which input.
  Laid BY PROGRAM, IN A SANDBOX (cutbox-rows.mjs): the forced cells as the released guide's own fill.sh prints them over the translation d94792654880af7b… (all of the seat's roots in one cut). By AI agents, Wed Nov 11 2026. No macro, syntax, notation, axiom, sorry.
-/
import Derived.Test.YtedfihgkopejcaaChecked
import GoSem.Claim
import GoSem.ClaimJoined
import GoSem.ClaimMapViews
import Derived.JoinedTies
import Derived.KernelRfl
namespace Go.Proofs.Ytedfihgkopejcaa
/- THE CELL 'sum', in the pinned program and in every row, IS THE sha256 OF THE DUMP (.gsa) THAT YtedfihgkopejcaaProg.lean LOADS. Nothing in Lean hashes anything: it is a label: what it is worth is what the hold of that sum in a sandbox is worth. -/
noncomputable def Try.pinned : Pinned := { name := "ytedfihgkopejcaa", sum := "d94792654880af7b93dc3c72cb690411c05a75bb01fccb07d2ae04a65d89d53f", checked := Try.checked }
namespace Rows
def none {H : Type} : Left H := { results := [], args := [] }

/-- 'planispherelaw09.TagMatchesReference': WHATEVER THE INPUT: true; the input reads as it did. -/
def tagMatchesReferenceSpec : ChangeSpec := { name := "tagMatchesReference", fn := fun _ => fun
  | [d1, d2, d3, d4, d5, d6] => { results := [.lit (.bool true)], args := [d1, d2, d3, d4, d5, d6] }
  | _ => none }
def tagMatchesReferenceRow : OpenClaim := { program := "ytedfihgkopejcaa", sum := "d94792654880af7b93dc3c72cb690411c05a75bb01fccb07d2ae04a65d89d53f", func := "planisphere/planispherelaw09.TagMatchesReference", spec := "tagMatchesReference", inPlace := ["internal/bytealg.IndexByteString", "internal/abi.NoEscape", "internal/bytealg.MakeNoZero", "internal/bytealg.abigen_runtime_cmpstring", "slices.overlaps[planisphere/api.Tag]"], unfollowed := true, recurses := true, apart := false }
def TagMatchesReferenceSaid : Prop := tagMatchesReferenceRow.holds Try.pinned (OpenSpec.ofChange tagMatchesReferenceSpec)

/-- ITS FALSE NEIGHBOUR: 'it returns false'. Refute it at one input. -/
def tagMatchesReferenceWrong : ChangeSpec := { name := "tagMatchesReference", fn := fun _ => fun
  | [d1, d2, d3, d4, d5, d6] => { results := [.lit (.bool false)], args := [d1, d2, d3, d4, d5, d6] }
  | _ => none }
def TagMatchesReferenceWrongFalsely : Prop := tagMatchesReferenceRow.holds Try.pinned (OpenSpec.ofChange tagMatchesReferenceWrong)

/-- 'planispherelaw09.TagTexts': WHATEVER THE INPUT: true; the input reads as it did. -/
def tagTextsSpec : ChangeSpec := { name := "tagTexts", fn := fun _ => fun
  | [d1, d2, d3] => { results := [.lit (.bool true)], args := [d1, d2, d3] }
  | _ => none }
def tagTextsRow : OpenClaim := { program := "ytedfihgkopejcaa", sum := "d94792654880af7b93dc3c72cb690411c05a75bb01fccb07d2ae04a65d89d53f", func := "planisphere/planispherelaw09.TagTexts", spec := "tagTexts", inPlace := ["internal/bytealg.IndexByteString", "internal/abi.NoEscape", "internal/bytealg.MakeNoZero", "internal/bytealg.abigen_runtime_cmpstring", "slices.overlaps[planisphere/api.Tag]"], unfollowed := true, recurses := true, apart := false }
def TagTextsSaid : Prop := tagTextsRow.holds Try.pinned (OpenSpec.ofChange tagTextsSpec)

/-- ITS FALSE NEIGHBOUR: 'it returns false'. Refute it at one input. -/
def tagTextsWrong : ChangeSpec := { name := "tagTexts", fn := fun _ => fun
  | [d1, d2, d3] => { results := [.lit (.bool false)], args := [d1, d2, d3] }
  | _ => none }
def TagTextsWrongFalsely : Prop := tagTextsRow.holds Try.pinned (OpenSpec.ofChange tagTextsWrong)

/-- 'planispherelaw09.TagSets': WHATEVER THE INPUT: true; the input reads as it did. -/
def tagSetsSpec : ChangeSpec := { name := "tagSets", fn := fun _ => fun
  | [d1, d2, d3, d4] => { results := [.lit (.bool true)], args := [d1, d2, d3, d4] }
  | _ => none }
def tagSetsRow : OpenClaim := { program := "ytedfihgkopejcaa", sum := "d94792654880af7b93dc3c72cb690411c05a75bb01fccb07d2ae04a65d89d53f", func := "planisphere/planispherelaw09.TagSets", spec := "tagSets", inPlace := ["internal/bytealg.IndexByteString", "internal/abi.NoEscape", "internal/bytealg.MakeNoZero", "internal/bytealg.abigen_runtime_cmpstring", "slices.overlaps[planisphere/api.Tag]"], unfollowed := true, recurses := true, apart := false }
def TagSetsSaid : Prop := tagSetsRow.holds Try.pinned (OpenSpec.ofChange tagSetsSpec)

/-- ITS FALSE NEIGHBOUR: 'it returns false'. Refute it at one input. -/
def tagSetsWrong : ChangeSpec := { name := "tagSets", fn := fun _ => fun
  | [d1, d2, d3, d4] => { results := [.lit (.bool false)], args := [d1, d2, d3, d4] }
  | _ => none }
def TagSetsWrongFalsely : Prop := tagSetsRow.holds Try.pinned (OpenSpec.ofChange tagSetsWrong)

/-- 'planispherelaw09.TagMerges': WHATEVER THE INPUT: true; the input reads as it did. -/
def tagMergesSpec : ChangeSpec := { name := "tagMerges", fn := fun _ => fun
  | [d1, d2, d3] => { results := [.lit (.bool true)], args := [d1, d2, d3] }
  | _ => none }
def tagMergesRow : OpenClaim := { program := "ytedfihgkopejcaa", sum := "d94792654880af7b93dc3c72cb690411c05a75bb01fccb07d2ae04a65d89d53f", func := "planisphere/planispherelaw09.TagMerges", spec := "tagMerges", inPlace := ["internal/bytealg.IndexByteString", "internal/abi.NoEscape", "internal/bytealg.MakeNoZero", "internal/bytealg.abigen_runtime_cmpstring", "slices.overlaps[planisphere/api.Tag]"], unfollowed := true, recurses := true, apart := false }
def TagMergesSaid : Prop := tagMergesRow.holds Try.pinned (OpenSpec.ofChange tagMergesSpec)

/-- ITS FALSE NEIGHBOUR: 'it returns false'. Refute it at one input. -/
def tagMergesWrong : ChangeSpec := { name := "tagMerges", fn := fun _ => fun
  | [d1, d2, d3] => { results := [.lit (.bool false)], args := [d1, d2, d3] }
  | _ => none }
def TagMergesWrongFalsely : Prop := tagMergesRow.holds Try.pinned (OpenSpec.ofChange tagMergesWrong)

/-- 'planispherelaw09.TagConflicts': WHATEVER THE INPUT: true; the input reads as it did. -/
def tagConflictsSpec : ChangeSpec := { name := "tagConflicts", fn := fun _ => fun
  | [d1, d2, d3, d4] => { results := [.lit (.bool true)], args := [d1, d2, d3, d4] }
  | _ => none }
def tagConflictsRow : OpenClaim := { program := "ytedfihgkopejcaa", sum := "d94792654880af7b93dc3c72cb690411c05a75bb01fccb07d2ae04a65d89d53f", func := "planisphere/planispherelaw09.TagConflicts", spec := "tagConflicts", inPlace := ["internal/bytealg.IndexByteString", "internal/abi.NoEscape", "internal/bytealg.MakeNoZero", "internal/bytealg.abigen_runtime_cmpstring", "slices.overlaps[planisphere/api.Tag]"], unfollowed := true, recurses := true, apart := false }
def TagConflictsSaid : Prop := tagConflictsRow.holds Try.pinned (OpenSpec.ofChange tagConflictsSpec)

/-- ITS FALSE NEIGHBOUR: 'it returns false'. Refute it at one input. -/
def tagConflictsWrong : ChangeSpec := { name := "tagConflicts", fn := fun _ => fun
  | [d1, d2, d3, d4] => { results := [.lit (.bool false)], args := [d1, d2, d3, d4] }
  | _ => none }
def TagConflictsWrongFalsely : Prop := tagConflictsRow.holds Try.pinned (OpenSpec.ofChange tagConflictsWrong)

/-- 'planispherelaw09.TagCommutes': WHATEVER THE INPUT: true; the input reads as it did. -/
def tagCommutesSpec : ChangeSpec := { name := "tagCommutes", fn := fun _ => fun
  | [d1, d2, d3, d4, d5] => { results := [.lit (.bool true)], args := [d1, d2, d3, d4, d5] }
  | _ => none }
def tagCommutesRow : OpenClaim := { program := "ytedfihgkopejcaa", sum := "d94792654880af7b93dc3c72cb690411c05a75bb01fccb07d2ae04a65d89d53f", func := "planisphere/planispherelaw09.TagCommutes", spec := "tagCommutes", inPlace := ["internal/bytealg.IndexByteString", "internal/abi.NoEscape", "internal/bytealg.MakeNoZero", "internal/bytealg.abigen_runtime_cmpstring", "slices.overlaps[planisphere/api.Tag]"], unfollowed := true, recurses := true, apart := false }
def TagCommutesSaid : Prop := tagCommutesRow.holds Try.pinned (OpenSpec.ofChange tagCommutesSpec)

/-- ITS FALSE NEIGHBOUR: 'it returns false'. Refute it at one input. -/
def tagCommutesWrong : ChangeSpec := { name := "tagCommutes", fn := fun _ => fun
  | [d1, d2, d3, d4, d5] => { results := [.lit (.bool false)], args := [d1, d2, d3, d4, d5] }
  | _ => none }
def TagCommutesWrongFalsely : Prop := tagCommutesRow.holds Try.pinned (OpenSpec.ofChange tagCommutesWrong)

/- THE SECOND FORM. 'bulk': how many values and letters a reading holds, each counted each time it is reached (what is shared counts as often as it is met; a slice's spare places count too). A statement '..UptoSaid' is the law's where the arguments, and the package variables that the reading takes, are together of bulk at most 1048576: NARROWER than '..Said'. Prove '..Said' where nothing that the law and all that it calls make is longer than what came in: it says more and counts as full. Else prove '..UptoSaid'. A law counts once. -/
mutual
def uptoBulk {H : Type} : DataW H → Nat
  | .lit (.string bytes) => bytes.length + 1
  | .lit _ => 1
  | .nil => 1
  | .ptr d => uptoBulk d + 1
  | .slice elems spare => uptoBulkAll elems + uptoBulkAll spare + 1
  | .agg parts => uptoBulkAll parts + 1
  | .iface _ d => uptoBulk d + 1
  | .map entries => uptoBulkEntries entries + 1
  | .held _ => 1
def uptoBulkAll {H : Type} : List (DataW H) → Nat
  | [] => 0
  | d :: r => uptoBulk d + uptoBulkAll r
def uptoBulkEntries {H : Type} : List (Lit × DataW H) → Nat
  | [] => 0
  | x :: r => uptoBulkEntry x + uptoBulkEntries r
def uptoBulkEntry {H : Type} : Lit × DataW H → Nat
  | (.string bytes, d) => bytes.length + uptoBulk d + 1
  | (_, d) => uptoBulk d + 1
 end
def uptoSmall : (H : Type) → List (DataW H) → Bool := fun _ ds => decide (uptoBulkAll ds ≤ 1048576)
def OpenSpec.upto (s : _root_.Go.ChangeSpec) : _root_.Go.OpenSpec := { _root_.Go.OpenSpec.ofChange s with cond := some uptoSmall }

/-- 'planispherelaw09.TagMatchesReference', WHERE WHAT IT READS IS OF BULK AT MOST 1048576: true; the input reads as it did. -/
def tagMatchesReferenceUptoRow : OpenClaim := { program := "ytedfihgkopejcaa", sum := "d94792654880af7b93dc3c72cb690411c05a75bb01fccb07d2ae04a65d89d53f", func := "planisphere/planispherelaw09.TagMatchesReference", spec := "tagMatchesReference", inPlace := ["internal/bytealg.IndexByteString", "internal/abi.NoEscape", "internal/bytealg.MakeNoZero", "internal/bytealg.abigen_runtime_cmpstring", "slices.overlaps[planisphere/api.Tag]"], unfollowed := true, recurses := true, apart := false, narrowed := true }
def TagMatchesReferenceUptoSaid : Prop := tagMatchesReferenceUptoRow.holds Try.pinned (OpenSpec.upto tagMatchesReferenceSpec)

/-- 'planispherelaw09.TagTexts', WHERE WHAT IT READS IS OF BULK AT MOST 1048576: true; the input reads as it did. -/
def tagTextsUptoRow : OpenClaim := { program := "ytedfihgkopejcaa", sum := "d94792654880af7b93dc3c72cb690411c05a75bb01fccb07d2ae04a65d89d53f", func := "planisphere/planispherelaw09.TagTexts", spec := "tagTexts", inPlace := ["internal/bytealg.IndexByteString", "internal/abi.NoEscape", "internal/bytealg.MakeNoZero", "internal/bytealg.abigen_runtime_cmpstring", "slices.overlaps[planisphere/api.Tag]"], unfollowed := true, recurses := true, apart := false, narrowed := true }
def TagTextsUptoSaid : Prop := tagTextsUptoRow.holds Try.pinned (OpenSpec.upto tagTextsSpec)

/-- 'planispherelaw09.TagSets', WHERE WHAT IT READS IS OF BULK AT MOST 1048576: true; the input reads as it did. -/
def tagSetsUptoRow : OpenClaim := { program := "ytedfihgkopejcaa", sum := "d94792654880af7b93dc3c72cb690411c05a75bb01fccb07d2ae04a65d89d53f", func := "planisphere/planispherelaw09.TagSets", spec := "tagSets", inPlace := ["internal/bytealg.IndexByteString", "internal/abi.NoEscape", "internal/bytealg.MakeNoZero", "internal/bytealg.abigen_runtime_cmpstring", "slices.overlaps[planisphere/api.Tag]"], unfollowed := true, recurses := true, apart := false, narrowed := true }
def TagSetsUptoSaid : Prop := tagSetsUptoRow.holds Try.pinned (OpenSpec.upto tagSetsSpec)

/-- 'planispherelaw09.TagMerges', WHERE WHAT IT READS IS OF BULK AT MOST 1048576: true; the input reads as it did. -/
def tagMergesUptoRow : OpenClaim := { program := "ytedfihgkopejcaa", sum := "d94792654880af7b93dc3c72cb690411c05a75bb01fccb07d2ae04a65d89d53f", func := "planisphere/planispherelaw09.TagMerges", spec := "tagMerges", inPlace := ["internal/bytealg.IndexByteString", "internal/abi.NoEscape", "internal/bytealg.MakeNoZero", "internal/bytealg.abigen_runtime_cmpstring", "slices.overlaps[planisphere/api.Tag]"], unfollowed := true, recurses := true, apart := false, narrowed := true }
def TagMergesUptoSaid : Prop := tagMergesUptoRow.holds Try.pinned (OpenSpec.upto tagMergesSpec)

/-- 'planispherelaw09.TagConflicts', WHERE WHAT IT READS IS OF BULK AT MOST 1048576: true; the input reads as it did. -/
def tagConflictsUptoRow : OpenClaim := { program := "ytedfihgkopejcaa", sum := "d94792654880af7b93dc3c72cb690411c05a75bb01fccb07d2ae04a65d89d53f", func := "planisphere/planispherelaw09.TagConflicts", spec := "tagConflicts", inPlace := ["internal/bytealg.IndexByteString", "internal/abi.NoEscape", "internal/bytealg.MakeNoZero", "internal/bytealg.abigen_runtime_cmpstring", "slices.overlaps[planisphere/api.Tag]"], unfollowed := true, recurses := true, apart := false, narrowed := true }
def TagConflictsUptoSaid : Prop := tagConflictsUptoRow.holds Try.pinned (OpenSpec.upto tagConflictsSpec)

/-- 'planispherelaw09.TagCommutes', WHERE WHAT IT READS IS OF BULK AT MOST 1048576: true; the input reads as it did. -/
def tagCommutesUptoRow : OpenClaim := { program := "ytedfihgkopejcaa", sum := "d94792654880af7b93dc3c72cb690411c05a75bb01fccb07d2ae04a65d89d53f", func := "planisphere/planispherelaw09.TagCommutes", spec := "tagCommutes", inPlace := ["internal/bytealg.IndexByteString", "internal/abi.NoEscape", "internal/bytealg.MakeNoZero", "internal/bytealg.abigen_runtime_cmpstring", "slices.overlaps[planisphere/api.Tag]"], unfollowed := true, recurses := true, apart := false, narrowed := true }
def TagCommutesUptoSaid : Prop := tagCommutesUptoRow.holds Try.pinned (OpenSpec.upto tagCommutesSpec)

end Rows
end Go.Proofs.Ytedfihgkopejcaa
