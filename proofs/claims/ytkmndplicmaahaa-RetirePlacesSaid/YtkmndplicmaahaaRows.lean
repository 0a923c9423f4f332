/-
  No cell of these rows narrows 'for every input' (looked for: loops, veiled, ifaces, maps, wideKeys, modest, calm, conditions, laid).
  DERIVED. THE GIVEN ROWS OF THIS SEAT. 8 by the template 'for every input the law returns true; each argument reads behind the call as it read before'; 0 by the template 'total and deterministic' (their statements: YtkmndplicmaahaaTotals.lean).
  GIVEN WITH THE SEED: the statements are not yours to turn. If you find one false, say at which input.
  Laid BY PROGRAM, IN A SANDBOX (cutbox-rows.mjs): the forced cells as the released guide's own fill.sh prints them over the translation 4d5696eecacff2dd… (all of the seat's roots in one cut). By AI agents, Wed Nov 11 2026. No macro, syntax, notation, axiom, sorry.
-/
import Derived.Test.YtkmndplicmaahaaChecked
import GoSem.Claim
import GoSem.ClaimJoined
import GoSem.ClaimMapViews
import Derived.JoinedTies
import Derived.KernelRfl
namespace Go.Proofs.Ytkmndplicmaahaa
/- THE CELL 'sum', in the pinned program and in every row, IS THE sha256 OF THE DUMP (.gsa) THAT YtkmndplicmaahaaProg.lean LOADS. Nothing in Lean hashes anything: it is a label: what it is worth is what the hold of that sum in a sandbox is worth. -/
noncomputable def Try.pinned : Pinned := { name := "ytkmndplicmaahaa", sum := "4d5696eecacff2dde3451ee83482a6d63d2a90918e152524b2ce075f412a4eba", checked := Try.checked }
namespace Rows
def none {H : Type} : Left H := { results := [], args := [] }

/-- 'limekilnlaw13.LinkAlone': WHATEVER THE INPUT: true; the input reads as it did. -/
def linkAloneSpec : ChangeSpec := { name := "linkAlone", fn := fun _ => fun
  | [d1, d2, d3] => { results := [.lit (.bool true)], args := [d1, d2, d3] }
  | _ => none }
def linkAloneRow : OpenClaim := { program := "ytkmndplicmaahaa", sum := "4d5696eecacff2dde3451ee83482a6d63d2a90918e152524b2ce075f412a4eba", func := "limekiln/limekilnlaw13.LinkAlone", spec := "linkAlone", inPlace := ["slices.overlaps[int]"], unfollowed := true, recurses := true, apart := false }
def LinkAloneSaid : Prop := linkAloneRow.holds Try.pinned (OpenSpec.ofChange linkAloneSpec)

/-- ITS FALSE NEIGHBOUR: 'it returns false'. Refute it at one input. -/
def linkAloneWrong : ChangeSpec := { name := "linkAlone", fn := fun _ => fun
  | [d1, d2, d3] => { results := [.lit (.bool false)], args := [d1, d2, d3] }
  | _ => none }
def LinkAloneWrongFalsely : Prop := linkAloneRow.holds Try.pinned (OpenSpec.ofChange linkAloneWrong)

/-- 'limekilnlaw13.LinkWins': WHATEVER THE INPUT: true; the input reads as it did. -/
def linkWinsSpec : ChangeSpec := { name := "linkWins", fn := fun _ => fun
  | [d1, d2] => { results := [.lit (.bool true)], args := [d1, d2] }
  | _ => none }
def linkWinsRow : OpenClaim := { program := "ytkmndplicmaahaa", sum := "4d5696eecacff2dde3451ee83482a6d63d2a90918e152524b2ce075f412a4eba", func := "limekiln/limekilnlaw13.LinkWins", spec := "linkWins", inPlace := ["slices.overlaps[int]"], unfollowed := true, recurses := true, apart := false }
def LinkWinsSaid : Prop := linkWinsRow.holds Try.pinned (OpenSpec.ofChange linkWinsSpec)

/-- ITS FALSE NEIGHBOUR: 'it returns false'. Refute it at one input. -/
def linkWinsWrong : ChangeSpec := { name := "linkWins", fn := fun _ => fun
  | [d1, d2] => { results := [.lit (.bool false)], args := [d1, d2] }
  | _ => none }
def LinkWinsWrongFalsely : Prop := linkWinsRow.holds Try.pinned (OpenSpec.ofChange linkWinsWrong)

/-- 'limekilnlaw11.RetireSlots': WHATEVER THE INPUT: true; the input reads as it did. -/
def retireSlotsSpec : ChangeSpec := { name := "retireSlots", fn := fun _ => fun
  | [d1, d2] => { results := [.lit (.bool true)], args := [d1, d2] }
  | _ => none }
def retireSlotsRow : OpenClaim := { program := "ytkmndplicmaahaa", sum := "4d5696eecacff2dde3451ee83482a6d63d2a90918e152524b2ce075f412a4eba", func := "limekiln/limekilnlaw11.RetireSlots", spec := "retireSlots", inPlace := ["slices.overlaps[int]"], unfollowed := true, recurses := true, apart := false }
def RetireSlotsSaid : Prop := retireSlotsRow.holds Try.pinned (OpenSpec.ofChange retireSlotsSpec)

/-- ITS FALSE NEIGHBOUR: 'it returns false'. Refute it at one input. -/
def retireSlotsWrong : ChangeSpec := { name := "retireSlots", fn := fun _ => fun
  | [d1, d2] => { results := [.lit (.bool false)], args := [d1, d2] }
  | _ => none }
def RetireSlotsWrongFalsely : Prop := retireSlotsRow.holds Try.pinned (OpenSpec.ofChange retireSlotsWrong)

/-- 'limekilnlaw13.LinkKept': WHATEVER THE INPUT: true; the input reads as it did. -/
def linkKeptSpec : ChangeSpec := { name := "linkKept", fn := fun _ => fun
  | [d1, d2] => { results := [.lit (.bool true)], args := [d1, d2] }
  | _ => none }
def linkKeptRow : OpenClaim := { program := "ytkmndplicmaahaa", sum := "4d5696eecacff2dde3451ee83482a6d63d2a90918e152524b2ce075f412a4eba", func := "limekiln/limekilnlaw13.LinkKept", spec := "linkKept", inPlace := ["slices.overlaps[int]"], unfollowed := true, recurses := true, apart := false }
def LinkKeptSaid : Prop := linkKeptRow.holds Try.pinned (OpenSpec.ofChange linkKeptSpec)

/-- ITS FALSE NEIGHBOUR: 'it returns false'. Refute it at one input. -/
def linkKeptWrong : ChangeSpec := { name := "linkKept", fn := fun _ => fun
  | [d1, d2] => { results := [.lit (.bool false)], args := [d1, d2] }
  | _ => none }
def LinkKeptWrongFalsely : Prop := linkKeptRow.holds Try.pinned (OpenSpec.ofChange linkKeptWrong)

/-- 'limekilnlaw11.RetirePlaces': WHATEVER THE INPUT: true; the input reads as it did. -/
def retirePlacesSpec : ChangeSpec := { name := "retirePlaces", fn := fun _ => fun
  | [d1, d2, d3] => { results := [.lit (.bool true)], args := [d1, d2, d3] }
  | _ => none }
def retirePlacesRow : OpenClaim := { program := "ytkmndplicmaahaa", sum := "4d5696eecacff2dde3451ee83482a6d63d2a90918e152524b2ce075f412a4eba", func := "limekiln/limekilnlaw11.RetirePlaces", spec := "retirePlaces", inPlace := ["slices.overlaps[int]"], unfollowed := true, recurses := true, apart := false }
def RetirePlacesSaid : Prop := retirePlacesRow.holds Try.pinned (OpenSpec.ofChange retirePlacesSpec)

/-- ITS FALSE NEIGHBOUR: 'it returns false'. Refute it at one input. -/
def retirePlacesWrong : ChangeSpec := { name := "retirePlaces", fn := fun _ => fun
  | [d1, d2, d3] => { results := [.lit (.bool false)], args := [d1, d2, d3] }
  | _ => none }
def RetirePlacesWrongFalsely : Prop := retirePlacesRow.holds Try.pinned (OpenSpec.ofChange retirePlacesWrong)

/-- 'limekilnlaw11.RetireFull': WHATEVER THE INPUT: true; the input reads as it did. -/
def retireFullSpec : ChangeSpec := { name := "retireFull", fn := fun _ => fun
  | [d1, d2, d3] => { results := [.lit (.bool true)], args := [d1, d2, d3] }
  | _ => none }
def retireFullRow : OpenClaim := { program := "ytkmndplicmaahaa", sum := "4d5696eecacff2dde3451ee83482a6d63d2a90918e152524b2ce075f412a4eba", func := "limekiln/limekilnlaw11.RetireFull", spec := "retireFull", inPlace := ["slices.overlaps[int]"], unfollowed := true, recurses := true, apart := false }
def RetireFullSaid : Prop := retireFullRow.holds Try.pinned (OpenSpec.ofChange retireFullSpec)

/-- ITS FALSE NEIGHBOUR: 'it returns false'. Refute it at one input. -/
def retireFullWrong : ChangeSpec := { name := "retireFull", fn := fun _ => fun
  | [d1, d2, d3] => { results := [.lit (.bool false)], args := [d1, d2, d3] }
  | _ => none }
def RetireFullWrongFalsely : Prop := retireFullRow.holds Try.pinned (OpenSpec.ofChange retireFullWrong)

/-- 'limekilnlaw13.LinkReads': WHATEVER THE INPUT: true; the input reads as it did. -/
def linkReadsSpec : ChangeSpec := { name := "linkReads", fn := fun _ => fun
  | [d1, d2, d3] => { results := [.lit (.bool true)], args := [d1, d2, d3] }
  | _ => none }
def linkReadsRow : OpenClaim := { program := "ytkmndplicmaahaa", sum := "4d5696eecacff2dde3451ee83482a6d63d2a90918e152524b2ce075f412a4eba", func := "limekiln/limekilnlaw13.LinkReads", spec := "linkReads", inPlace := ["slices.overlaps[int]"], unfollowed := true, recurses := true, apart := false }
def LinkReadsSaid : Prop := linkReadsRow.holds Try.pinned (OpenSpec.ofChange linkReadsSpec)

/-- ITS FALSE NEIGHBOUR: 'it returns false'. Refute it at one input. -/
def linkReadsWrong : ChangeSpec := { name := "linkReads", fn := fun _ => fun
  | [d1, d2, d3] => { results := [.lit (.bool false)], args := [d1, d2, d3] }
  | _ => none }
def LinkReadsWrongFalsely : Prop := linkReadsRow.holds Try.pinned (OpenSpec.ofChange linkReadsWrong)

/-- 'limekilnlaw13.LinkSets': WHATEVER THE INPUT: true; the input reads as it did. -/
def linkSetsSpec : ChangeSpec := { name := "linkSets", fn := fun _ => fun
  | [d1, d2, d3] => { results := [.lit (.bool true)], args := [d1, d2, d3] }
  | _ => none }
def linkSetsRow : OpenClaim := { program := "ytkmndplicmaahaa", sum := "4d5696eecacff2dde3451ee83482a6d63d2a90918e152524b2ce075f412a4eba", func := "limekiln/limekilnlaw13.LinkSets", spec := "linkSets", inPlace := ["slices.overlaps[int]"], unfollowed := true, recurses := true, apart := false }
def LinkSetsSaid : Prop := linkSetsRow.holds Try.pinned (OpenSpec.ofChange linkSetsSpec)

/-- ITS FALSE NEIGHBOUR: 'it returns false'. Refute it at one input. -/
def linkSetsWrong : ChangeSpec := { name := "linkSets", fn := fun _ => fun
  | [d1, d2, d3] => { results := [.lit (.bool false)], args := [d1, d2, d3] }
  | _ => none }
def LinkSetsWrongFalsely : Prop := linkSetsRow.holds Try.pinned (OpenSpec.ofChange linkSetsWrong)

/- THE SECOND FORM. 'bulk': how many values and letters a reading holds, each counted each time it is reached (what is shared counts as often as it is met; a slice's spare places count too). A statement '..UptoSaid' is the law's where the arguments, and the package variables that the reading takes, are together of bulk at most 1048576: NARROWER than '..Said'. Prove '..Said' where nothing that the law and all that it calls make is longer than what came in: it says more and counts as full. Else prove '..UptoSaid'. A law counts once. -/
mutual
def uptoBulk {H : Type} : DataW H → Nat
  | .lit (.string bytes) => bytes.length + 1
  | .lit _ => 1
  | .nil => 1
  | .ptr d => uptoBulk d + 1
  | .slice elems spare => uptoBulkAll elems + uptoBulkAll spare + 1
  | .agg parts => uptoBulkAll parts + 1
  | .iface _ d => uptoBulk d + 1
  | .map entries => uptoBulkEntries entries + 1
  | .held _ => 1
def uptoBulkAll {H : Type} : List (DataW H) → Nat
  | [] => 0
  | d :: r => uptoBulk d + uptoBulkAll r
def uptoBulkEntries {H : Type} : List (Lit × DataW H) → Nat
  | [] => 0
  | x :: r => uptoBulkEntry x + uptoBulkEntries r
def uptoBulkEntry {H : Type} : Lit × DataW H → Nat
  | (.string bytes, d) => bytes.length + uptoBulk d + 1
  | (_, d) => uptoBulk d + 1
 end
def uptoSmall : (H : Type) → List (DataW H) → Bool := fun _ ds => decide (uptoBulkAll ds ≤ 1048576)
def OpenSpec.upto (s : _root_.Go.ChangeSpec) : _root_.Go.OpenSpec := { _root_.Go.OpenSpec.ofChange s with cond := some uptoSmall }

/-- 'limekilnlaw13.LinkAlone', WHERE WHAT IT READS IS OF BULK AT MOST 1048576: true; the input reads as it did. -/
def linkAloneUptoRow : OpenClaim := { program := "ytkmndplicmaahaa", sum := "4d5696eecacff2dde3451ee83482a6d63d2a90918e152524b2ce075f412a4eba", func := "limekiln/limekilnlaw13.LinkAlone", spec := "linkAlone", inPlace := ["slices.overlaps[int]"], unfollowed := true, recurses := true, apart := false, narrowed := true }
def LinkAloneUptoSaid : Prop := linkAloneUptoRow.holds Try.pinned (OpenSpec.upto linkAloneSpec)

/-- 'limekilnlaw13.LinkWins', WHERE WHAT IT READS IS OF BULK AT MOST 1048576: true; the input reads as it did. -/
def linkWinsUptoRow : OpenClaim := { program := "ytkmndplicmaahaa", sum := "4d5696eecacff2dde3451ee83482a6d63d2a90918e152524b2ce075f412a4eba", func := "limekiln/limekilnlaw13.LinkWins", spec := "linkWins", inPlace := ["slices.overlaps[int]"], unfollowed := true, recurses := true, apart := false, narrowed := true }
def LinkWinsUptoSaid : Prop := linkWinsUptoRow.holds Try.pinned (OpenSpec.upto linkWinsSpec)

/-- 'limekilnlaw11.RetireSlots', WHERE WHAT IT READS IS OF BULK AT MOST 1048576: true; the input reads as it did. -/
def retireSlotsUptoRow : OpenClaim := { program := "ytkmndplicmaahaa", sum := "4d5696eecacff2dde3451ee83482a6d63d2a90918e152524b2ce075f412a4eba", func := "limekiln/limekilnlaw11.RetireSlots", spec := "retireSlots", inPlace := ["slices.overlaps[int]"], unfollowed := true, recurses := true, apart := false, narrowed := true }
def RetireSlotsUptoSaid : Prop := retireSlotsUptoRow.holds Try.pinned (OpenSpec.upto retireSlotsSpec)

/-- 'limekilnlaw13.LinkKept', WHERE WHAT IT READS IS OF BULK AT MOST 1048576: true; the input reads as it did. -/
def linkKeptUptoRow : OpenClaim := { program := "ytkmndplicmaahaa", sum := "4d5696eecacff2dde3451ee83482a6d63d2a90918e152524b2ce075f412a4eba", func := "limekiln/limekilnlaw13.LinkKept", spec := "linkKept", inPlace := ["slices.overlaps[int]"], unfollowed := true, recurses := true, apart := false, narrowed := true }
def LinkKeptUptoSaid : Prop := linkKeptUptoRow.holds Try.pinned (OpenSpec.upto linkKeptSpec)

/-- 'limekilnlaw11.RetirePlaces', WHERE WHAT IT READS IS OF BULK AT MOST 1048576: true; the input reads as it did. -/
def retirePlacesUptoRow : OpenClaim := { program := "ytkmndplicmaahaa", sum := "4d5696eecacff2dde3451ee83482a6d63d2a90918e152524b2ce075f412a4eba", func := "limekiln/limekilnlaw11.RetirePlaces", spec := "retirePlaces", inPlace := ["slices.overlaps[int]"], unfollowed := true, recurses := true, apart := false, narrowed := true }
def RetirePlacesUptoSaid : Prop := retirePlacesUptoRow.holds Try.pinned (OpenSpec.upto retirePlacesSpec)

/-- 'limekilnlaw11.RetireFull', WHERE WHAT IT READS IS OF BULK AT MOST 1048576: true; the input reads as it did. -/
def retireFullUptoRow : OpenClaim := { program := "ytkmndplicmaahaa", sum := "4d5696eecacff2dde3451ee83482a6d63d2a90918e152524b2ce075f412a4eba", func := "limekiln/limekilnlaw11.RetireFull", spec := "retireFull", inPlace := ["slices.overlaps[int]"], unfollowed := true, recurses := true, apart := false, narrowed := true }
def RetireFullUptoSaid : Prop := retireFullUptoRow.holds Try.pinned (OpenSpec.upto retireFullSpec)

/-- 'limekilnlaw13.LinkReads', WHERE WHAT IT READS IS OF BULK AT MOST 1048576: true; the input reads as it did. -/
def linkReadsUptoRow : OpenClaim := { program := "ytkmndplicmaahaa", sum := "4d5696eecacff2dde3451ee83482a6d63d2a90918e152524b2ce075f412a4eba", func := "limekiln/limekilnlaw13.LinkReads", spec := "linkReads", inPlace := ["slices.overlaps[int]"], unfollowed := true, recurses := true, apart := false, narrowed := true }
def LinkReadsUptoSaid : Prop := linkReadsUptoRow.holds Try.pinned (OpenSpec.upto linkReadsSpec)

/-- 'limekilnlaw13.LinkSets', WHERE WHAT IT READS IS OF BULK AT MOST 1048576: true; the input reads as it did. -/
def linkSetsUptoRow : OpenClaim := { program := "ytkmndplicmaahaa", sum := "4d5696eecacff2dde3451ee83482a6d63d2a90918e152524b2ce075f412a4eba", func := "limekiln/limekilnlaw13.LinkSets", spec := "linkSets", inPlace := ["slices.overlaps[int]"], unfollowed := true, recurses := true, apart := false, narrowed := true }
def LinkSetsUptoSaid : Prop := linkSetsUptoRow.holds Try.pinned (OpenSpec.upto linkSetsSpec)

end Rows
end Go.Proofs.Ytkmndplicmaahaa
