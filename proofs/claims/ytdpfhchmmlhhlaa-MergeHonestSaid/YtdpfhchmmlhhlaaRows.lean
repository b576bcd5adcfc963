/-
  No cell of these rows narrows 'for every input' (looked for: loops, veiled, ifaces, maps, wideKeys, modest, calm, conditions, laid).
  DERIVED. THE GIVEN ROWS OF THIS SEAT. 7 by the template 'for every input the law returns true; each argument reads behind the call as it read before'; 0 by the template 'total and deterministic' (their statements: YtdpfhchmmlhhlaaTotals.lean).
  GIVEN WITH THE SEED: the statements are not yours to turn. If you find one false, say at which input.
  Laid BY PROGRAM, IN A SANDBOX (cutbox-rows.mjs): the forced cells as the released guide's own fill.sh prints them over the translation be2b95f2b6b8f4f3… (all of the seat's roots in one cut). By AI agents, Wed Nov 11 2026. No macro, syntax, notation, axiom, sorry.
-/
import Derived.Test.YtdpfhchmmlhhlaaChecked
import GoSem.Claim
import GoSem.ClaimJoined
import GoSem.ClaimMapViews
import Derived.JoinedTies
import Derived.KernelRfl
namespace Go.Proofs.Ytdpfhchmmlhhlaa
/- THE CELL 'sum', in the pinned program and in every row, IS THE sha256 OF THE DUMP (.gsa) THAT YtdpfhchmmlhhlaaProg.lean LOADS. Nothing in Lean hashes anything: it is a label: what it is worth is what the hold of that sum in a sandbox is worth. -/
noncomputable def Try.pinned : Pinned := { name := "ytdpfhchmmlhhlaa", sum := "be2b95f2b6b8f4f3feb0b3f0682b009e6edd4e5699be4289fe97f4811cab8f8d", checked := Try.checked }
namespace Rows
def none {H : Type} : Left H := { results := [], args := [] }

/-- 'airchecklaw32.MergeMatchesReference': WHATEVER THE INPUT: true; the input reads as it did. -/
def mergeMatchesReferenceSpec : ChangeSpec := { name := "mergeMatchesReference", fn := fun _ => fun
  | [d1, d2, d3, d4, d5, d6] => { results := [.lit (.bool true)], args := [d1, d2, d3, d4, d5, d6] }
  | _ => none }
def mergeMatchesReferenceRow : OpenClaim := { program := "ytdpfhchmmlhhlaa", sum := "be2b95f2b6b8f4f3feb0b3f0682b009e6edd4e5699be4289fe97f4811cab8f8d", func := "aircheck/airchecklaw32.MergeMatchesReference", spec := "mergeMatchesReference", unfollowed := true, recurses := true, plainKeys := false, apart := false }
def MergeMatchesReferenceSaid : Prop := mergeMatchesReferenceRow.holds Try.pinned (OpenSpec.ofChange mergeMatchesReferenceSpec)

/-- ITS FALSE NEIGHBOUR: 'it returns false'. Refute it at one input. -/
def mergeMatchesReferenceWrong : ChangeSpec := { name := "mergeMatchesReference", fn := fun _ => fun
  | [d1, d2, d3, d4, d5, d6] => { results := [.lit (.bool false)], args := [d1, d2, d3, d4, d5, d6] }
  | _ => none }
def MergeMatchesReferenceWrongFalsely : Prop := mergeMatchesReferenceRow.holds Try.pinned (OpenSpec.ofChange mergeMatchesReferenceWrong)

/-- 'airchecklaw32.MergeJoins': WHATEVER THE INPUT: true; the input reads as it did. -/
def mergeJoinsSpec : ChangeSpec := { name := "mergeJoins", fn := fun _ => fun
  | [d1, d2, d3] => { results := [.lit (.bool true)], args := [d1, d2, d3] }
  | _ => none }
def mergeJoinsRow : OpenClaim := { program := "ytdpfhchmmlhhlaa", sum := "be2b95f2b6b8f4f3feb0b3f0682b009e6edd4e5699be4289fe97f4811cab8f8d", func := "aircheck/airchecklaw32.MergeJoins", spec := "mergeJoins", unfollowed := true, recurses := true, plainKeys := false, apart := false }
def MergeJoinsSaid : Prop := mergeJoinsRow.holds Try.pinned (OpenSpec.ofChange mergeJoinsSpec)

/-- ITS FALSE NEIGHBOUR: 'it returns false'. Refute it at one input. -/
def mergeJoinsWrong : ChangeSpec := { name := "mergeJoins", fn := fun _ => fun
  | [d1, d2, d3] => { results := [.lit (.bool false)], args := [d1, d2, d3] }
  | _ => none }
def MergeJoinsWrongFalsely : Prop := mergeJoinsRow.holds Try.pinned (OpenSpec.ofChange mergeJoinsWrong)

/-- 'airchecklaw32.MergeTakes': WHATEVER THE INPUT: true; the input reads as it did. -/
def mergeTakesSpec : ChangeSpec := { name := "mergeTakes", fn := fun _ => fun
  | [d1, d2, d3] => { results := [.lit (.bool true)], args := [d1, d2, d3] }
  | _ => none }
def mergeTakesRow : OpenClaim := { program := "ytdpfhchmmlhhlaa", sum := "be2b95f2b6b8f4f3feb0b3f0682b009e6edd4e5699be4289fe97f4811cab8f8d", func := "aircheck/airchecklaw32.MergeTakes", spec := "mergeTakes", unfollowed := true, recurses := true, plainKeys := false, apart := false }
def MergeTakesSaid : Prop := mergeTakesRow.holds Try.pinned (OpenSpec.ofChange mergeTakesSpec)

/-- ITS FALSE NEIGHBOUR: 'it returns false'. Refute it at one input. -/
def mergeTakesWrong : ChangeSpec := { name := "mergeTakes", fn := fun _ => fun
  | [d1, d2, d3] => { results := [.lit (.bool false)], args := [d1, d2, d3] }
  | _ => none }
def MergeTakesWrongFalsely : Prop := mergeTakesRow.holds Try.pinned (OpenSpec.ofChange mergeTakesWrong)

/-- 'airchecklaw32.MergeSpreads': WHATEVER THE INPUT: true; the input reads as it did. -/
def mergeSpreadsSpec : ChangeSpec := { name := "mergeSpreads", fn := fun _ => fun
  | [d1, d2, d3] => { results := [.lit (.bool true)], args := [d1, d2, d3] }
  | _ => none }
def mergeSpreadsRow : OpenClaim := { program := "ytdpfhchmmlhhlaa", sum := "be2b95f2b6b8f4f3feb0b3f0682b009e6edd4e5699be4289fe97f4811cab8f8d", func := "aircheck/airchecklaw32.MergeSpreads", spec := "mergeSpreads", unfollowed := true, recurses := true, plainKeys := false, apart := false }
def MergeSpreadsSaid : Prop := mergeSpreadsRow.holds Try.pinned (OpenSpec.ofChange mergeSpreadsSpec)

/-- ITS FALSE NEIGHBOUR: 'it returns false'. Refute it at one input. -/
def mergeSpreadsWrong : ChangeSpec := { name := "mergeSpreads", fn := fun _ => fun
  | [d1, d2, d3] => { results := [.lit (.bool false)], args := [d1, d2, d3] }
  | _ => none }
def MergeSpreadsWrongFalsely : Prop := mergeSpreadsRow.holds Try.pinned (OpenSpec.ofChange mergeSpreadsWrong)

/-- 'airchecklaw32.MergeCounts': WHATEVER THE INPUT: true; the input reads as it did. -/
def mergeCountsSpec : ChangeSpec := { name := "mergeCounts", fn := fun _ => fun
  | [d1, d2, d3, d4] => { results := [.lit (.bool true)], args := [d1, d2, d3, d4] }
  | _ => none }
def mergeCountsRow : OpenClaim := { program := "ytdpfhchmmlhhlaa", sum := "be2b95f2b6b8f4f3feb0b3f0682b009e6edd4e5699be4289fe97f4811cab8f8d", func := "aircheck/airchecklaw32.MergeCounts", spec := "mergeCounts", unfollowed := true, recurses := true, plainKeys := false, apart := false }
def MergeCountsSaid : Prop := mergeCountsRow.holds Try.pinned (OpenSpec.ofChange mergeCountsSpec)

/-- ITS FALSE NEIGHBOUR: 'it returns false'. Refute it at one input. -/
def mergeCountsWrong : ChangeSpec := { name := "mergeCounts", fn := fun _ => fun
  | [d1, d2, d3, d4] => { results := [.lit (.bool false)], args := [d1, d2, d3, d4] }
  | _ => none }
def MergeCountsWrongFalsely : Prop := mergeCountsRow.holds Try.pinned (OpenSpec.ofChange mergeCountsWrong)

/-- 'airchecklaw32.MergeOwners': WHATEVER THE INPUT: true; the input reads as it did. -/
def mergeOwnersSpec : ChangeSpec := { name := "mergeOwners", fn := fun _ => fun
  | [d1, d2, d3, d4] => { results := [.lit (.bool true)], args := [d1, d2, d3, d4] }
  | _ => none }
def mergeOwnersRow : OpenClaim := { program := "ytdpfhchmmlhhlaa", sum := "be2b95f2b6b8f4f3feb0b3f0682b009e6edd4e5699be4289fe97f4811cab8f8d", func := "aircheck/airchecklaw32.MergeOwners", spec := "mergeOwners", unfollowed := true, recurses := true, plainKeys := false, apart := false }
def MergeOwnersSaid : Prop := mergeOwnersRow.holds Try.pinned (OpenSpec.ofChange mergeOwnersSpec)

/-- ITS FALSE NEIGHBOUR: 'it returns false'. Refute it at one input. -/
def mergeOwnersWrong : ChangeSpec := { name := "mergeOwners", fn := fun _ => fun
  | [d1, d2, d3, d4] => { results := [.lit (.bool false)], args := [d1, d2, d3, d4] }
  | _ => none }
def MergeOwnersWrongFalsely : Prop := mergeOwnersRow.holds Try.pinned (OpenSpec.ofChange mergeOwnersWrong)

/-- 'airchecklaw32.MergeHonest': WHATEVER THE INPUT: true; the input reads as it did. -/
def mergeHonestSpec : ChangeSpec := { name := "mergeHonest", fn := fun _ => fun
  | [d1, d2] => { results := [.lit (.bool true)], args := [d1, d2] }
  | _ => none }
def mergeHonestRow : OpenClaim := { program := "ytdpfhchmmlhhlaa", sum := "be2b95f2b6b8f4f3feb0b3f0682b009e6edd4e5699be4289fe97f4811cab8f8d", func := "aircheck/airchecklaw32.MergeHonest", spec := "mergeHonest", unfollowed := true, recurses := true, plainKeys := false, apart := false }
def MergeHonestSaid : Prop := mergeHonestRow.holds Try.pinned (OpenSpec.ofChange mergeHonestSpec)

/-- ITS FALSE NEIGHBOUR: 'it returns false'. Refute it at one input. -/
def mergeHonestWrong : ChangeSpec := { name := "mergeHonest", fn := fun _ => fun
  | [d1, d2] => { results := [.lit (.bool false)], args := [d1, d2] }
  | _ => none }
def MergeHonestWrongFalsely : Prop := mergeHonestRow.holds Try.pinned (OpenSpec.ofChange mergeHonestWrong)

/- THE SECOND FORM. 'bulk': how many values and letters a reading holds, each counted each time it is reached (what is shared counts as often as it is met; a slice's spare places count too). A statement '..UptoSaid' is the law's where the arguments, and the package variables that the reading takes, are together of bulk at most 1048576: NARROWER than '..Said'. Prove '..Said' where nothing that the law and all that it calls make is longer than what came in: it says more and counts as full. Else prove '..UptoSaid'. A law counts once. -/
mutual
def uptoBulk {H : Type} : DataW H → Nat
  | .lit (.string bytes) => bytes.length + 1
  | .lit _ => 1
  | .nil => 1
  | .ptr d => uptoBulk d + 1
  | .slice elems spare => uptoBulkAll elems + uptoBulkAll spare + 1
  | .agg parts => uptoBulkAll parts + 1
  | .iface _ d => uptoBulk d + 1
  | .map entries => uptoBulkEntries entries + 1
  | .held _ => 1
def uptoBulkAll {H : Type} : List (DataW H) → Nat
  | [] => 0
  | d :: r => uptoBulk d + uptoBulkAll r
def uptoBulkEntries {H : Type} : List (Lit × DataW H) → Nat
  | [] => 0
  | x :: r => uptoBulkEntry x + uptoBulkEntries r
def uptoBulkEntry {H : Type} : Lit × DataW H → Nat
  | (.string bytes, d) => bytes.length + uptoBulk d + 1
  | (_, d) => uptoBulk d + 1
 end
def uptoSmall : (H : Type) → List (DataW H) → Bool := fun _ ds => decide (uptoBulkAll ds ≤ 1048576)
def OpenSpec.upto (s : _root_.Go.ChangeSpec) : _root_.Go.OpenSpec := { _root_.Go.OpenSpec.ofChange s with cond := some uptoSmall }

/-- 'airchecklaw32.MergeMatchesReference', WHERE WHAT IT READS IS OF BULK AT MOST 1048576: true; the input reads as it did. -/
def mergeMatchesReferenceUptoRow : OpenClaim := { program := "ytdpfhchmmlhhlaa", sum := "be2b95f2b6b8f4f3feb0b3f0682b009e6edd4e5699be4289fe97f4811cab8f8d", func := "aircheck/airchecklaw32.MergeMatchesReference", spec := "mergeMatchesReference", unfollowed := true, recurses := true, plainKeys := false, apart := false, narrowed := true }
def MergeMatchesReferenceUptoSaid : Prop := mergeMatchesReferenceUptoRow.holds Try.pinned (OpenSpec.upto mergeMatchesReferenceSpec)

/-- 'airchecklaw32.MergeJoins', WHERE WHAT IT READS IS OF BULK AT MOST 1048576: true; the input reads as it did. -/
def mergeJoinsUptoRow : OpenClaim := { program := "ytdpfhchmmlhhlaa", sum := "be2b95f2b6b8f4f3feb0b3f0682b009e6edd4e5699be4289fe97f4811cab8f8d", func := "aircheck/airchecklaw32.MergeJoins", spec := "mergeJoins", unfollowed := true, recurses := true, plainKeys := false, apart := false, narrowed := true }
def MergeJoinsUptoSaid : Prop := mergeJoinsUptoRow.holds Try.pinned (OpenSpec.upto mergeJoinsSpec)

/-- 'airchecklaw32.MergeTakes', WHERE WHAT IT READS IS OF BULK AT MOST 1048576: true; the input reads as it did. -/
def mergeTakesUptoRow : OpenClaim := { program := "ytdpfhchmmlhhlaa", sum := "be2b95f2b6b8f4f3feb0b3f0682b009e6edd4e5699be4289fe97f4811cab8f8d", func := "aircheck/airchecklaw32.MergeTakes", spec := "mergeTakes", unfollowed := true, recurses := true, plainKeys := false, apart := false, narrowed := true }
def MergeTakesUptoSaid : Prop := mergeTakesUptoRow.holds Try.pinned (OpenSpec.upto mergeTakesSpec)

/-- 'airchecklaw32.MergeSpreads', WHERE WHAT IT READS IS OF BULK AT MOST 1048576: true; the input reads as it did. -/
def mergeSpreadsUptoRow : OpenClaim := { program := "ytdpfhchmmlhhlaa", sum := "be2b95f2b6b8f4f3feb0b3f0682b009e6edd4e5699be4289fe97f4811cab8f8d", func := "aircheck/airchecklaw32.MergeSpreads", spec := "mergeSpreads", unfollowed := true, recurses := true, plainKeys := false, apart := false, narrowed := true }
def MergeSpreadsUptoSaid : Prop := mergeSpreadsUptoRow.holds Try.pinned (OpenSpec.upto mergeSpreadsSpec)

/-- 'airchecklaw32.MergeCounts', WHERE WHAT IT READS IS OF BULK AT MOST 1048576: true; the input reads as it did. -/
def mergeCountsUptoRow : OpenClaim := { program := "ytdpfhchmmlhhlaa", sum := "be2b95f2b6b8f4f3feb0b3f0682b009e6edd4e5699be4289fe97f4811cab8f8d", func := "aircheck/airchecklaw32.MergeCounts", spec := "mergeCounts", unfollowed := true, recurses := true, plainKeys := false, apart := false, narrowed := true }
def MergeCountsUptoSaid : Prop := mergeCountsUptoRow.holds Try.pinned (OpenSpec.upto mergeCountsSpec)

/-- 'airchecklaw32.MergeOwners', WHERE WHAT IT READS IS OF BULK AT MOST 1048576: true; the input reads as it did. -/
def mergeOwnersUptoRow : OpenClaim := { program := "ytdpfhchmmlhhlaa", sum := "be2b95f2b6b8f4f3feb0b3f0682b009e6edd4e5699be4289fe97f4811cab8f8d", func := "aircheck/airchecklaw32.MergeOwners", spec := "mergeOwners", unfollowed := true, recurses := true, plainKeys := false, apart := false, narrowed := true }
def MergeOwnersUptoSaid : Prop := mergeOwnersUptoRow.holds Try.pinned (OpenSpec.upto mergeOwnersSpec)

/-- 'airchecklaw32.MergeHonest', WHERE WHAT IT READS IS OF BULK AT MOST 1048576: true; the input reads as it did. -/
def mergeHonestUptoRow : OpenClaim := { program := "ytdpfhchmmlhhlaa", sum := "be2b95f2b6b8f4f3feb0b3f0682b009e6edd4e5699be4289fe97f4811cab8f8d", func := "aircheck/airchecklaw32.MergeHonest", spec := "mergeHonest", unfollowed := true, recurses := true, plainKeys := false, apart := false, narrowed := true }
def MergeHonestUptoSaid : Prop := mergeHonestUptoRow.holds Try.pinned (OpenSpec.upto mergeHonestSpec)

end Rows
end Go.Proofs.Ytdpfhchmmlhhlaa
