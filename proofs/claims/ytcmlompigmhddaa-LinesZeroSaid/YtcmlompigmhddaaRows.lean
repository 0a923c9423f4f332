/-
  No cell of these rows narrows 'for every input' (looked for: loops, veiled, ifaces, maps, wideKeys, modest, calm, conditions, laid).
  DERIVED. THE GIVEN ROWS OF THIS SEAT. 11 by the template 'for every input the law returns true; each argument reads behind the call as it read before'; 0 by the template 'total and deterministic' (their statements: YtcmlompigmhddaaTotals.lean).
  GIVEN WITH THE SEED: the statements are not yours to turn. If you find one false, say at which input.
  Laid BY PROGRAM, IN A SANDBOX (cutbox-rows.mjs): the forced cells as the released guide's own fill.sh prints them over the translation 592fdb051580fa52… (all of the seat's roots in one cut). By AI agents, Wed Nov 11 2026. No macro, syntax, notation, axiom, sorry.
-/
import Derived.Test.YtcmlompigmhddaaChecked
import GoSem.Claim
import GoSem.ClaimJoined
import GoSem.ClaimMapViews
import Derived.JoinedTies
import Derived.KernelRfl
namespace Go.Proofs.Ytcmlompigmhddaa
/- THE CELL 'sum', in the pinned program and in every row, IS THE sha256 OF THE DUMP (.gsa) THAT YtcmlompigmhddaaProg.lean LOADS. Nothing in Lean hashes anything: it is a label: what it is worth is what the hold of that sum in a sandbox is worth. -/
noncomputable def Try.pinned : Pinned := { name := "ytcmlompigmhddaa", sum := "592fdb051580fa52f08a179d42ddcbec91caeec98b69f10033557242e13ab18e", checked := Try.checked }
namespace Rows
def none {H : Type} : Left H := { results := [], args := [] }

/-- 'limekilnlaw03.LinesBytes': WHATEVER THE INPUT: true; the input reads as it did. -/
def linesBytesSpec : ChangeSpec := { name := "linesBytes", fn := fun _ => fun
  | [d1, d2] => { results := [.lit (.bool true)], args := [d1, d2] }
  | _ => none }
def linesBytesRow : OpenClaim := { program := "ytcmlompigmhddaa", sum := "592fdb051580fa52f08a179d42ddcbec91caeec98b69f10033557242e13ab18e", func := "limekiln/limekilnlaw03.LinesBytes", spec := "linesBytes", unfollowed := true, recurses := true, apart := false }
def LinesBytesSaid : Prop := linesBytesRow.holds Try.pinned (OpenSpec.ofChange linesBytesSpec)

/-- ITS FALSE NEIGHBOUR: 'it returns false'. Refute it at one input. -/
def linesBytesWrong : ChangeSpec := { name := "linesBytes", fn := fun _ => fun
  | [d1, d2] => { results := [.lit (.bool false)], args := [d1, d2] }
  | _ => none }
def LinesBytesWrongFalsely : Prop := linesBytesRow.holds Try.pinned (OpenSpec.ofChange linesBytesWrong)

/-- 'limekilnlaw03.LinesWords': WHATEVER THE INPUT: true; the input reads as it did. -/
def linesWordsSpec : ChangeSpec := { name := "linesWords", fn := fun _ => fun
  | [d1, d2] => { results := [.lit (.bool true)], args := [d1, d2] }
  | _ => none }
def linesWordsRow : OpenClaim := { program := "ytcmlompigmhddaa", sum := "592fdb051580fa52f08a179d42ddcbec91caeec98b69f10033557242e13ab18e", func := "limekiln/limekilnlaw03.LinesWords", spec := "linesWords", unfollowed := true, recurses := true, apart := false }
def LinesWordsSaid : Prop := linesWordsRow.holds Try.pinned (OpenSpec.ofChange linesWordsSpec)

/-- ITS FALSE NEIGHBOUR: 'it returns false'. Refute it at one input. -/
def linesWordsWrong : ChangeSpec := { name := "linesWords", fn := fun _ => fun
  | [d1, d2] => { results := [.lit (.bool false)], args := [d1, d2] }
  | _ => none }
def LinesWordsWrongFalsely : Prop := linesWordsRow.holds Try.pinned (OpenSpec.ofChange linesWordsWrong)

/-- 'limekilnlaw34.DiffBetween': WHATEVER THE INPUT: true; the input reads as it did. -/
def diffBetweenSpec : ChangeSpec := { name := "diffBetween", fn := fun _ => fun
  | [d1, d2] => { results := [.lit (.bool true)], args := [d1, d2] }
  | _ => none }
def diffBetweenRow : OpenClaim := { program := "ytcmlompigmhddaa", sum := "592fdb051580fa52f08a179d42ddcbec91caeec98b69f10033557242e13ab18e", func := "limekiln/limekilnlaw34.DiffBetween", spec := "diffBetween", apart := false }
def DiffBetweenSaid : Prop := diffBetweenRow.holds Try.pinned (OpenSpec.ofChange diffBetweenSpec)

/-- ITS FALSE NEIGHBOUR: 'it returns false'. Refute it at one input. -/
def diffBetweenWrong : ChangeSpec := { name := "diffBetween", fn := fun _ => fun
  | [d1, d2] => { results := [.lit (.bool false)], args := [d1, d2] }
  | _ => none }
def DiffBetweenWrongFalsely : Prop := diffBetweenRow.holds Try.pinned (OpenSpec.ofChange diffBetweenWrong)

/-- 'limekilnlaw34.DiffApplies': WHATEVER THE INPUT: true; the input reads as it did. -/
def diffAppliesSpec : ChangeSpec := { name := "diffApplies", fn := fun _ => fun
  | [d1, d2] => { results := [.lit (.bool true)], args := [d1, d2] }
  | _ => none }
def diffAppliesRow : OpenClaim := { program := "ytcmlompigmhddaa", sum := "592fdb051580fa52f08a179d42ddcbec91caeec98b69f10033557242e13ab18e", func := "limekiln/limekilnlaw34.DiffApplies", spec := "diffApplies", apart := false }
def DiffAppliesSaid : Prop := diffAppliesRow.holds Try.pinned (OpenSpec.ofChange diffAppliesSpec)

/-- ITS FALSE NEIGHBOUR: 'it returns false'. Refute it at one input. -/
def diffAppliesWrong : ChangeSpec := { name := "diffApplies", fn := fun _ => fun
  | [d1, d2] => { results := [.lit (.bool false)], args := [d1, d2] }
  | _ => none }
def DiffAppliesWrongFalsely : Prop := diffAppliesRow.holds Try.pinned (OpenSpec.ofChange diffAppliesWrong)

/-- 'limekilnlaw03.LinesImages': WHATEVER THE INPUT: true; the input reads as it did. -/
def linesImagesSpec : ChangeSpec := { name := "linesImages", fn := fun _ => fun
  | [d1, d2] => { results := [.lit (.bool true)], args := [d1, d2] }
  | _ => none }
def linesImagesRow : OpenClaim := { program := "ytcmlompigmhddaa", sum := "592fdb051580fa52f08a179d42ddcbec91caeec98b69f10033557242e13ab18e", func := "limekiln/limekilnlaw03.LinesImages", spec := "linesImages", unfollowed := true, recurses := true, apart := false }
def LinesImagesSaid : Prop := linesImagesRow.holds Try.pinned (OpenSpec.ofChange linesImagesSpec)

/-- ITS FALSE NEIGHBOUR: 'it returns false'. Refute it at one input. -/
def linesImagesWrong : ChangeSpec := { name := "linesImages", fn := fun _ => fun
  | [d1, d2] => { results := [.lit (.bool false)], args := [d1, d2] }
  | _ => none }
def LinesImagesWrongFalsely : Prop := linesImagesRow.holds Try.pinned (OpenSpec.ofChange linesImagesWrong)

/-- 'limekilnlaw06.LayoutSlots': WHATEVER THE INPUT: true; the input reads as it did. -/
def layoutSlotsSpec : ChangeSpec := { name := "layoutSlots", fn := fun _ => fun
  | [d1, d2] => { results := [.lit (.bool true)], args := [d1, d2] }
  | _ => none }
def layoutSlotsRow : OpenClaim := { program := "ytcmlompigmhddaa", sum := "592fdb051580fa52f08a179d42ddcbec91caeec98b69f10033557242e13ab18e", func := "limekiln/limekilnlaw06.LayoutSlots", spec := "layoutSlots", unfollowed := true, recurses := true, apart := false }
def LayoutSlotsSaid : Prop := layoutSlotsRow.holds Try.pinned (OpenSpec.ofChange layoutSlotsSpec)

/-- ITS FALSE NEIGHBOUR: 'it returns false'. Refute it at one input. -/
def layoutSlotsWrong : ChangeSpec := { name := "layoutSlots", fn := fun _ => fun
  | [d1, d2] => { results := [.lit (.bool false)], args := [d1, d2] }
  | _ => none }
def LayoutSlotsWrongFalsely : Prop := layoutSlotsRow.holds Try.pinned (OpenSpec.ofChange layoutSlotsWrong)

/-- 'limekilnlaw03.LinesZero': WHATEVER THE INPUT: true; the input reads as it did. -/
def linesZeroSpec : ChangeSpec := { name := "linesZero", fn := fun _ => fun
  | [d1, d2] => { results := [.lit (.bool true)], args := [d1, d2] }
  | _ => none }
def linesZeroRow : OpenClaim := { program := "ytcmlompigmhddaa", sum := "592fdb051580fa52f08a179d42ddcbec91caeec98b69f10033557242e13ab18e", func := "limekiln/limekilnlaw03.LinesZero", spec := "linesZero", unfollowed := true, recurses := true, apart := false }
def LinesZeroSaid : Prop := linesZeroRow.holds Try.pinned (OpenSpec.ofChange linesZeroSpec)

/-- ITS FALSE NEIGHBOUR: 'it returns false'. Refute it at one input. -/
def linesZeroWrong : ChangeSpec := { name := "linesZero", fn := fun _ => fun
  | [d1, d2] => { results := [.lit (.bool false)], args := [d1, d2] }
  | _ => none }
def LinesZeroWrongFalsely : Prop := linesZeroRow.holds Try.pinned (OpenSpec.ofChange linesZeroWrong)

/-- 'limekilnlaw34.DiffJoins': WHATEVER THE INPUT: true; the input reads as it did. -/
def diffJoinsSpec : ChangeSpec := { name := "diffJoins", fn := fun _ => fun
  | [d1, d2, d3] => { results := [.lit (.bool true)], args := [d1, d2, d3] }
  | _ => none }
def diffJoinsRow : OpenClaim := { program := "ytcmlompigmhddaa", sum := "592fdb051580fa52f08a179d42ddcbec91caeec98b69f10033557242e13ab18e", func := "limekiln/limekilnlaw34.DiffJoins", spec := "diffJoins", apart := false }
def DiffJoinsSaid : Prop := diffJoinsRow.holds Try.pinned (OpenSpec.ofChange diffJoinsSpec)

/-- ITS FALSE NEIGHBOUR: 'it returns false'. Refute it at one input. -/
def diffJoinsWrong : ChangeSpec := { name := "diffJoins", fn := fun _ => fun
  | [d1, d2, d3] => { results := [.lit (.bool false)], args := [d1, d2, d3] }
  | _ => none }
def DiffJoinsWrongFalsely : Prop := diffJoinsRow.holds Try.pinned (OpenSpec.ofChange diffJoinsWrong)

/-- 'limekilnlaw06.LayoutNone': WHATEVER THE INPUT: true; the input reads as it did. -/
def layoutNoneSpec : ChangeSpec := { name := "layoutNone", fn := fun _ => fun
  | [d1, d2, d3] => { results := [.lit (.bool true)], args := [d1, d2, d3] }
  | _ => none }
def layoutNoneRow : OpenClaim := { program := "ytcmlompigmhddaa", sum := "592fdb051580fa52f08a179d42ddcbec91caeec98b69f10033557242e13ab18e", func := "limekiln/limekilnlaw06.LayoutNone", spec := "layoutNone", unfollowed := true, recurses := true, apart := false }
def LayoutNoneSaid : Prop := layoutNoneRow.holds Try.pinned (OpenSpec.ofChange layoutNoneSpec)

/-- ITS FALSE NEIGHBOUR: 'it returns false'. Refute it at one input. -/
def layoutNoneWrong : ChangeSpec := { name := "layoutNone", fn := fun _ => fun
  | [d1, d2, d3] => { results := [.lit (.bool false)], args := [d1, d2, d3] }
  | _ => none }
def LayoutNoneWrongFalsely : Prop := layoutNoneRow.holds Try.pinned (OpenSpec.ofChange layoutNoneWrong)

/-- 'limekilnlaw06.LayoutWords': WHATEVER THE INPUT: true; the input reads as it did. -/
def layoutWordsSpec : ChangeSpec := { name := "layoutWords", fn := fun _ => fun
  | [d] => { results := [.lit (.bool true)], args := [d] }
  | _ => none }
def layoutWordsRow : OpenClaim := { program := "ytcmlompigmhddaa", sum := "592fdb051580fa52f08a179d42ddcbec91caeec98b69f10033557242e13ab18e", func := "limekiln/limekilnlaw06.LayoutWords", spec := "layoutWords", unfollowed := true, recurses := true, apart := false }
def LayoutWordsSaid : Prop := layoutWordsRow.holds Try.pinned (OpenSpec.ofChange layoutWordsSpec)

/-- ITS FALSE NEIGHBOUR: 'it returns false'. Refute it at one input. -/
def layoutWordsWrong : ChangeSpec := { name := "layoutWords", fn := fun _ => fun
  | [d] => { results := [.lit (.bool false)], args := [d] }
  | _ => none }
def LayoutWordsWrongFalsely : Prop := layoutWordsRow.holds Try.pinned (OpenSpec.ofChange layoutWordsWrong)

/-- 'limekilnlaw06.LayoutEmpty': WHATEVER THE INPUT: true; the input reads as it did. -/
def layoutEmptySpec : ChangeSpec := { name := "layoutEmpty", fn := fun _ => fun
  | [d1, d2, d3] => { results := [.lit (.bool true)], args := [d1, d2, d3] }
  | _ => none }
def layoutEmptyRow : OpenClaim := { program := "ytcmlompigmhddaa", sum := "592fdb051580fa52f08a179d42ddcbec91caeec98b69f10033557242e13ab18e", func := "limekiln/limekilnlaw06.LayoutEmpty", spec := "layoutEmpty", unfollowed := true, recurses := true, apart := false }
def LayoutEmptySaid : Prop := layoutEmptyRow.holds Try.pinned (OpenSpec.ofChange layoutEmptySpec)

/-- ITS FALSE NEIGHBOUR: 'it returns false'. Refute it at one input. -/
def layoutEmptyWrong : ChangeSpec := { name := "layoutEmpty", fn := fun _ => fun
  | [d1, d2, d3] => { results := [.lit (.bool false)], args := [d1, d2, d3] }
  | _ => none }
def LayoutEmptyWrongFalsely : Prop := layoutEmptyRow.holds Try.pinned (OpenSpec.ofChange layoutEmptyWrong)

/- THE SECOND FORM. 'bulk': how many values and letters a reading holds, each counted each time it is reached (what is shared counts as often as it is met; a slice's spare places count too). A statement '..UptoSaid' is the law's where the arguments, and the package variables that the reading takes, are together of bulk at most 1048576: NARROWER than '..Said'. Prove '..Said' where nothing that the law and all that it calls make is longer than what came in: it says more and counts as full. Else prove '..UptoSaid'. A law counts once. -/
mutual
def uptoBulk {H : Type} : DataW H → Nat
  | .lit (.string bytes) => bytes.length + 1
  | .lit _ => 1
  | .nil => 1
  | .ptr d => uptoBulk d + 1
  | .slice elems spare => uptoBulkAll elems + uptoBulkAll spare + 1
  | .agg parts => uptoBulkAll parts + 1
  | .iface _ d => uptoBulk d + 1
  | .map entries => uptoBulkEntries entries + 1
  | .held _ => 1
def uptoBulkAll {H : Type} : List (DataW H) → Nat
  | [] => 0
  | d :: r => uptoBulk d + uptoBulkAll r
def uptoBulkEntries {H : Type} : List (Lit × DataW H) → Nat
  | [] => 0
  | x :: r => uptoBulkEntry x + uptoBulkEntries r
def uptoBulkEntry {H : Type} : Lit × DataW H → Nat
  | (.string bytes, d) => bytes.length + uptoBulk d + 1
  | (_, d) => uptoBulk d + 1
 end
def uptoSmall : (H : Type) → List (DataW H) → Bool := fun _ ds => decide (uptoBulkAll ds ≤ 1048576)
def OpenSpec.upto (s : _root_.Go.ChangeSpec) : _root_.Go.OpenSpec := { _root_.Go.OpenSpec.ofChange s with cond := some uptoSmall }

/-- 'limekilnlaw03.LinesBytes', WHERE WHAT IT READS IS OF BULK AT MOST 1048576: true; the input reads as it did. -/
def linesBytesUptoRow : OpenClaim := { program := "ytcmlompigmhddaa", sum := "592fdb051580fa52f08a179d42ddcbec91caeec98b69f10033557242e13ab18e", func := "limekiln/limekilnlaw03.LinesBytes", spec := "linesBytes", unfollowed := true, recurses := true, apart := false, narrowed := true }
def LinesBytesUptoSaid : Prop := linesBytesUptoRow.holds Try.pinned (OpenSpec.upto linesBytesSpec)

/-- 'limekilnlaw03.LinesWords', WHERE WHAT IT READS IS OF BULK AT MOST 1048576: true; the input reads as it did. -/
def linesWordsUptoRow : OpenClaim := { program := "ytcmlompigmhddaa", sum := "592fdb051580fa52f08a179d42ddcbec91caeec98b69f10033557242e13ab18e", func := "limekiln/limekilnlaw03.LinesWords", spec := "linesWords", unfollowed := true, recurses := true, apart := false, narrowed := true }
def LinesWordsUptoSaid : Prop := linesWordsUptoRow.holds Try.pinned (OpenSpec.upto linesWordsSpec)

/-- 'limekilnlaw34.DiffBetween', WHERE WHAT IT READS IS OF BULK AT MOST 1048576: true; the input reads as it did. -/
def diffBetweenUptoRow : OpenClaim := { program := "ytcmlompigmhddaa", sum := "592fdb051580fa52f08a179d42ddcbec91caeec98b69f10033557242e13ab18e", func := "limekiln/limekilnlaw34.DiffBetween", spec := "diffBetween", apart := false, narrowed := true }
def DiffBetweenUptoSaid : Prop := diffBetweenUptoRow.holds Try.pinned (OpenSpec.upto diffBetweenSpec)

/-- 'limekilnlaw34.DiffApplies', WHERE WHAT IT READS IS OF BULK AT MOST 1048576: true; the input reads as it did. -/
def diffAppliesUptoRow : OpenClaim := { program := "ytcmlompigmhddaa", sum := "592fdb051580fa52f08a179d42ddcbec91caeec98b69f10033557242e13ab18e", func := "limekiln/limekilnlaw34.DiffApplies", spec := "diffApplies", apart := false, narrowed := true }
def DiffAppliesUptoSaid : Prop := diffAppliesUptoRow.holds Try.pinned (OpenSpec.upto diffAppliesSpec)

/-- 'limekilnlaw03.LinesImages', WHERE WHAT IT READS IS OF BULK AT MOST 1048576: true; the input reads as it did. -/
def linesImagesUptoRow : OpenClaim := { program := "ytcmlompigmhddaa", sum := "592fdb051580fa52f08a179d42ddcbec91caeec98b69f10033557242e13ab18e", func := "limekiln/limekilnlaw03.LinesImages", spec := "linesImages", unfollowed := true, recurses := true, apart := false, narrowed := true }
def LinesImagesUptoSaid : Prop := linesImagesUptoRow.holds Try.pinned (OpenSpec.upto linesImagesSpec)

/-- 'limekilnlaw06.LayoutSlots', WHERE WHAT IT READS IS OF BULK AT MOST 1048576: true; the input reads as it did. -/
def layoutSlotsUptoRow : OpenClaim := { program := "ytcmlompigmhddaa", sum := "592fdb051580fa52f08a179d42ddcbec91caeec98b69f10033557242e13ab18e", func := "limekiln/limekilnlaw06.LayoutSlots", spec := "layoutSlots", unfollowed := true, recurses := true, apart := false, narrowed := true }
def LayoutSlotsUptoSaid : Prop := layoutSlotsUptoRow.holds Try.pinned (OpenSpec.upto layoutSlotsSpec)

/-- 'limekilnlaw03.LinesZero', WHERE WHAT IT READS IS OF BULK AT MOST 1048576: true; the input reads as it did. -/
def linesZeroUptoRow : OpenClaim := { program := "ytcmlompigmhddaa", sum := "592fdb051580fa52f08a179d42ddcbec91caeec98b69f10033557242e13ab18e", func := "limekiln/limekilnlaw03.LinesZero", spec := "linesZero", unfollowed := true, recurses := true, apart := false, narrowed := true }
def LinesZeroUptoSaid : Prop := linesZeroUptoRow.holds Try.pinned (OpenSpec.upto linesZeroSpec)

/-- 'limekilnlaw34.DiffJoins', WHERE WHAT IT READS IS OF BULK AT MOST 1048576: true; the input reads as it did. -/
def diffJoinsUptoRow : OpenClaim := { program := "ytcmlompigmhddaa", sum := "592fdb051580fa52f08a179d42ddcbec91caeec98b69f10033557242e13ab18e", func := "limekiln/limekilnlaw34.DiffJoins", spec := "diffJoins", apart := false, narrowed := true }
def DiffJoinsUptoSaid : Prop := diffJoinsUptoRow.holds Try.pinned (OpenSpec.upto diffJoinsSpec)

/-- 'limekilnlaw06.LayoutNone', WHERE WHAT IT READS IS OF BULK AT MOST 1048576: true; the input reads as it did. -/
def layoutNoneUptoRow : OpenClaim := { program := "ytcmlompigmhddaa", sum := "592fdb051580fa52f08a179d42ddcbec91caeec98b69f10033557242e13ab18e", func := "limekiln/limekilnlaw06.LayoutNone", spec := "layoutNone", unfollowed := true, recurses := true, apart := false, narrowed := true }
def LayoutNoneUptoSaid : Prop := layoutNoneUptoRow.holds Try.pinned (OpenSpec.upto layoutNoneSpec)

/-- 'limekilnlaw06.LayoutWords', WHERE WHAT IT READS IS OF BULK AT MOST 1048576: true; the input reads as it did. -/
def layoutWordsUptoRow : OpenClaim := { program := "ytcmlompigmhddaa", sum := "592fdb051580fa52f08a179d42ddcbec91caeec98b69f10033557242e13ab18e", func := "limekiln/limekilnlaw06.LayoutWords", spec := "layoutWords", unfollowed := true, recurses := true, apart := false, narrowed := true }
def LayoutWordsUptoSaid : Prop := layoutWordsUptoRow.holds Try.pinned (OpenSpec.upto layoutWordsSpec)

/-- 'limekilnlaw06.LayoutEmpty', WHERE WHAT IT READS IS OF BULK AT MOST 1048576: true; the input reads as it did. -/
def layoutEmptyUptoRow : OpenClaim := { program := "ytcmlompigmhddaa", sum := "592fdb051580fa52f08a179d42ddcbec91caeec98b69f10033557242e13ab18e", func := "limekiln/limekilnlaw06.LayoutEmpty", spec := "layoutEmpty", unfollowed := true, recurses := true, apart := false, narrowed := true }
def LayoutEmptyUptoSaid : Prop := layoutEmptyUptoRow.holds Try.pinned (OpenSpec.upto layoutEmptySpec)

end Rows
end Go.Proofs.Ytcmlompigmhddaa
