/-
  No cell of these rows narrows 'for every input' (looked for: loops, veiled, ifaces, maps, wideKeys, modest, calm, conditions, laid).
  DERIVED. THE GIVEN ROWS OF THIS SEAT. 3 by the template 'for every input the law returns true; each argument reads behind the call as it read before'; 0 by the template 'total and deterministic' (their statements: YtajkickofkeemaaGreatTotals.lean).
  GIVEN WITH THE SEED: the statements are not yours to turn. If you find one false, say at which input.
  Laid BY PROGRAM, IN A SANDBOX (cutbox-rows.mjs): the forced cells as the released guide's own fill.sh prints them over the translation db77eb1a125ddfe3… (all of the seat's roots in one cut). By AI agents, Wed Nov 11 2026. No macro, syntax, notation, axiom, sorry.
-/
import Derived.Test.YtajkickofkeemaaGreatChecked
import GoSem.Claim
import GoSem.ClaimJoined
import GoSem.ClaimMapViews
import Derived.JoinedTies
import Derived.KernelRfl
namespace Go.Proofs.YtajkickofkeemaaGreat
/- THE CELL 'sum', in the pinned program and in every row, IS THE sha256 OF THE DUMP (.gsa) THAT YtajkickofkeemaaGreatProg.lean LOADS. Nothing in Lean hashes anything: it is a label: what it is worth is what the hold of that sum in a sandbox is worth. -/
noncomputable def Tryz.pinned : Pinned := { name := "ytajkickofkeemaagreat", sum := "db77eb1a125ddfe312312f4cfa45938769755c8037e3cfdf612eeb2dc1d24590", checked := Tryz.checked }
namespace Rows
def none {H : Type} : Left H := { results := [], args := [] }

/-- 'limekilnlaw10.EpochSteps': WHATEVER THE INPUT: true; the input reads as it did. -/
def epochStepsSpec : ChangeSpec := { name := "epochSteps", fn := fun _ => fun
  | [d1, d2, d3] => { results := [.lit (.bool true)], args := [d1, d2, d3] }
  | _ => none }
def epochStepsRow : OpenClaim := { program := "ytajkickofkeemaagreat", sum := "db77eb1a125ddfe312312f4cfa45938769755c8037e3cfdf612eeb2dc1d24590", func := "limekiln/limekilnlaw10.EpochSteps", spec := "epochSteps", inPlace := ["slices.overlaps[int]"], unfollowed := true, recurses := true, apart := false }
def EpochStepsSaid : Prop := epochStepsRow.holds Tryz.pinned (OpenSpec.ofChange epochStepsSpec)

/-- ITS FALSE NEIGHBOUR: 'it returns false'. Refute it at one input. -/
def epochStepsWrong : ChangeSpec := { name := "epochSteps", fn := fun _ => fun
  | [d1, d2, d3] => { results := [.lit (.bool false)], args := [d1, d2, d3] }
  | _ => none }
def EpochStepsWrongFalsely : Prop := epochStepsRow.holds Tryz.pinned (OpenSpec.ofChange epochStepsWrong)

/-- 'limekilnlaw09.FreePops': WHATEVER THE INPUT: true; the input reads as it did. -/
def freePopsSpec : ChangeSpec := { name := "freePops", fn := fun _ => fun
  | [d1, d2, d3] => { results := [.lit (.bool true)], args := [d1, d2, d3] }
  | _ => none }
def freePopsRow : OpenClaim := { program := "ytajkickofkeemaagreat", sum := "db77eb1a125ddfe312312f4cfa45938769755c8037e3cfdf612eeb2dc1d24590", func := "limekiln/limekilnlaw09.FreePops", spec := "freePops", inPlace := ["slices.overlaps[int]"], unfollowed := true, recurses := true, apart := false }
def FreePopsSaid : Prop := freePopsRow.holds Tryz.pinned (OpenSpec.ofChange freePopsSpec)

/-- ITS FALSE NEIGHBOUR: 'it returns false'. Refute it at one input. -/
def freePopsWrong : ChangeSpec := { name := "freePops", fn := fun _ => fun
  | [d1, d2, d3] => { results := [.lit (.bool false)], args := [d1, d2, d3] }
  | _ => none }
def FreePopsWrongFalsely : Prop := freePopsRow.holds Tryz.pinned (OpenSpec.ofChange freePopsWrong)

/-- 'limekilnlaw09.FreePushes': WHATEVER THE INPUT: true; the input reads as it did. -/
def freePushesSpec : ChangeSpec := { name := "freePushes", fn := fun _ => fun
  | [d1, d2, d3] => { results := [.lit (.bool true)], args := [d1, d2, d3] }
  | _ => none }
def freePushesRow : OpenClaim := { program := "ytajkickofkeemaagreat", sum := "db77eb1a125ddfe312312f4cfa45938769755c8037e3cfdf612eeb2dc1d24590", func := "limekiln/limekilnlaw09.FreePushes", spec := "freePushes", inPlace := ["slices.overlaps[int]"], unfollowed := true, recurses := true, apart := false }
def FreePushesSaid : Prop := freePushesRow.holds Tryz.pinned (OpenSpec.ofChange freePushesSpec)

/-- ITS FALSE NEIGHBOUR: 'it returns false'. Refute it at one input. -/
def freePushesWrong : ChangeSpec := { name := "freePushes", fn := fun _ => fun
  | [d1, d2, d3] => { results := [.lit (.bool false)], args := [d1, d2, d3] }
  | _ => none }
def FreePushesWrongFalsely : Prop := freePushesRow.holds Tryz.pinned (OpenSpec.ofChange freePushesWrong)

/- THE SECOND FORM. 'bulk': how many values and letters a reading holds, each counted each time it is reached (what is shared counts as often as it is met; a slice's spare places count too). A statement '..UptoSaid' is the law's where the arguments, and the package variables that the reading takes, are together of bulk at most 1048576: NARROWER than '..Said'. Prove '..Said' where nothing that the law and all that it calls make is longer than what came in: it says more and counts as full. Else prove '..UptoSaid'. A law counts once. -/
mutual
def uptoBulk {H : Type} : DataW H → Nat
  | .lit (.string bytes) => bytes.length + 1
  | .lit _ => 1
  | .nil => 1
  | .ptr d => uptoBulk d + 1
  | .slice elems spare => uptoBulkAll elems + uptoBulkAll spare + 1
  | .agg parts => uptoBulkAll parts + 1
  | .iface _ d => uptoBulk d + 1
  | .map entries => uptoBulkEntries entries + 1
  | .held _ => 1
def uptoBulkAll {H : Type} : List (DataW H) → Nat
  | [] => 0
  | d :: r => uptoBulk d + uptoBulkAll r
def uptoBulkEntries {H : Type} : List (Lit × DataW H) → Nat
  | [] => 0
  | x :: r => uptoBulkEntry x + uptoBulkEntries r
def uptoBulkEntry {H : Type} : Lit × DataW H → Nat
  | (.string bytes, d) => bytes.length + uptoBulk d + 1
  | (_, d) => uptoBulk d + 1
 end
def uptoSmall : (H : Type) → List (DataW H) → Bool := fun _ ds => decide (uptoBulkAll ds ≤ 1048576)
def OpenSpec.upto (s : _root_.Go.ChangeSpec) : _root_.Go.OpenSpec := { _root_.Go.OpenSpec.ofChange s with cond := some uptoSmall }

/-- 'limekilnlaw10.EpochSteps', WHERE WHAT IT READS IS OF BULK AT MOST 1048576: true; the input reads as it did. -/
def epochStepsUptoRow : OpenClaim := { program := "ytajkickofkeemaagreat", sum := "db77eb1a125ddfe312312f4cfa45938769755c8037e3cfdf612eeb2dc1d24590", func := "limekiln/limekilnlaw10.EpochSteps", spec := "epochSteps", inPlace := ["slices.overlaps[int]"], unfollowed := true, recurses := true, apart := false, narrowed := true }
def EpochStepsUptoSaid : Prop := epochStepsUptoRow.holds Tryz.pinned (OpenSpec.upto epochStepsSpec)

/-- 'limekilnlaw09.FreePops', WHERE WHAT IT READS IS OF BULK AT MOST 1048576: true; the input reads as it did. -/
def freePopsUptoRow : OpenClaim := { program := "ytajkickofkeemaagreat", sum := "db77eb1a125ddfe312312f4cfa45938769755c8037e3cfdf612eeb2dc1d24590", func := "limekiln/limekilnlaw09.FreePops", spec := "freePops", inPlace := ["slices.overlaps[int]"], unfollowed := true, recurses := true, apart := false, narrowed := true }
def FreePopsUptoSaid : Prop := freePopsUptoRow.holds Tryz.pinned (OpenSpec.upto freePopsSpec)

/-- 'limekilnlaw09.FreePushes', WHERE WHAT IT READS IS OF BULK AT MOST 1048576: true; the input reads as it did. -/
def freePushesUptoRow : OpenClaim := { program := "ytajkickofkeemaagreat", sum := "db77eb1a125ddfe312312f4cfa45938769755c8037e3cfdf612eeb2dc1d24590", func := "limekiln/limekilnlaw09.FreePushes", spec := "freePushes", inPlace := ["slices.overlaps[int]"], unfollowed := true, recurses := true, apart := false, narrowed := true }
def FreePushesUptoSaid : Prop := freePushesUptoRow.holds Tryz.pinned (OpenSpec.upto freePushesSpec)

end Rows
end Go.Proofs.YtajkickofkeemaaGreat
