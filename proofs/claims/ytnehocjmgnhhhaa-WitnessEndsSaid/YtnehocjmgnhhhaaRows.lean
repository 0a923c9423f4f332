/-
  No cell of these rows narrows 'for every input' (looked for: loops, veiled, ifaces, maps, wideKeys, modest, calm, conditions, laid).
  DERIVED. THE GIVEN ROWS OF THIS SEAT. 4 by the template 'for every input the law returns true; each argument reads behind the call as it read before'; 0 by the template 'total and deterministic' (their statements: YtnehocjmgnhhhaaTotals.lean).
  GIVEN WITH THE SEED: the statements are not yours to turn. If you find one false, say at which input.
  Laid BY PROGRAM, IN A SANDBOX (cutbox-rows.mjs): the forced cells as the released guide's own fill.sh prints them over the translation 149778621c94a8ee… (all of the seat's roots in one cut). By AI agents, Wed Nov 11 2026. No macro, syntax, notation, axiom, sorry.
-/
import Derived.Test.YtnehocjmgnhhhaaChecked
import GoSem.Claim
import GoSem.ClaimJoined
import GoSem.ClaimMapViews
import Derived.JoinedTies
import Derived.KernelRfl
namespace Go.Proofs.Ytnehocjmgnhhhaa
/- THE CELL 'sum', in the pinned program and in every row, IS THE sha256 OF THE DUMP (.gsa) THAT YtnehocjmgnhhhaaProg.lean LOADS. Nothing in Lean hashes anything: it is a label: what it is worth is what the hold of that sum in a sandbox is worth. -/
noncomputable def Try.pinned : Pinned := { name := "ytnehocjmgnhhhaa", sum := "149778621c94a8ee0e219d3e0402184300f5adfd7647aa2822aac36db9810d78", checked := Try.checked }
namespace Rows
def none {H : Type} : Left H := { results := [], args := [] }

/-- 'limekilnlaw25.WitnessOrders': WHATEVER THE INPUT: true; the input reads as it did. -/
def witnessOrdersSpec : ChangeSpec := { name := "witnessOrders", fn := fun _ => fun
  | [d1, d2] => { results := [.lit (.bool true)], args := [d1, d2] }
  | _ => none }
def witnessOrdersRow : OpenClaim := { program := "ytnehocjmgnhhhaa", sum := "149778621c94a8ee0e219d3e0402184300f5adfd7647aa2822aac36db9810d78", func := "limekiln/limekilnlaw25.WitnessOrders", spec := "witnessOrders", inPlace := ["slices.overlaps[uint32]", "slices.overlaps[limekiln/api.Pair]"], unfollowed := true, recurses := true, apart := false }
def WitnessOrdersSaid : Prop := witnessOrdersRow.holds Try.pinned (OpenSpec.ofChange witnessOrdersSpec)

/-- ITS FALSE NEIGHBOUR: 'it returns false'. Refute it at one input. -/
def witnessOrdersWrong : ChangeSpec := { name := "witnessOrders", fn := fun _ => fun
  | [d1, d2] => { results := [.lit (.bool false)], args := [d1, d2] }
  | _ => none }
def WitnessOrdersWrongFalsely : Prop := witnessOrdersRow.holds Try.pinned (OpenSpec.ofChange witnessOrdersWrong)

/-- 'limekilnlaw25.WitnessChecks': WHATEVER THE INPUT: true; the input reads as it did. -/
def witnessChecksSpec : ChangeSpec := { name := "witnessChecks", fn := fun _ => fun
  | [d1, d2] => { results := [.lit (.bool true)], args := [d1, d2] }
  | _ => none }
def witnessChecksRow : OpenClaim := { program := "ytnehocjmgnhhhaa", sum := "149778621c94a8ee0e219d3e0402184300f5adfd7647aa2822aac36db9810d78", func := "limekiln/limekilnlaw25.WitnessChecks", spec := "witnessChecks", inPlace := ["slices.overlaps[uint32]", "slices.overlaps[limekiln/api.Pair]"], unfollowed := true, recurses := true, apart := false }
def WitnessChecksSaid : Prop := witnessChecksRow.holds Try.pinned (OpenSpec.ofChange witnessChecksSpec)

/-- ITS FALSE NEIGHBOUR: 'it returns false'. Refute it at one input. -/
def witnessChecksWrong : ChangeSpec := { name := "witnessChecks", fn := fun _ => fun
  | [d1, d2] => { results := [.lit (.bool false)], args := [d1, d2] }
  | _ => none }
def WitnessChecksWrongFalsely : Prop := witnessChecksRow.holds Try.pinned (OpenSpec.ofChange witnessChecksWrong)

/-- 'limekilnlaw25.WitnessEnds': WHATEVER THE INPUT: true; the input reads as it did. -/
def witnessEndsSpec : ChangeSpec := { name := "witnessEnds", fn := fun _ => fun
  | [d1, d2] => { results := [.lit (.bool true)], args := [d1, d2] }
  | _ => none }
def witnessEndsRow : OpenClaim := { program := "ytnehocjmgnhhhaa", sum := "149778621c94a8ee0e219d3e0402184300f5adfd7647aa2822aac36db9810d78", func := "limekiln/limekilnlaw25.WitnessEnds", spec := "witnessEnds", inPlace := ["slices.overlaps[uint32]", "slices.overlaps[limekiln/api.Pair]"], unfollowed := true, recurses := true, apart := false }
def WitnessEndsSaid : Prop := witnessEndsRow.holds Try.pinned (OpenSpec.ofChange witnessEndsSpec)

/-- ITS FALSE NEIGHBOUR: 'it returns false'. Refute it at one input. -/
def witnessEndsWrong : ChangeSpec := { name := "witnessEnds", fn := fun _ => fun
  | [d1, d2] => { results := [.lit (.bool false)], args := [d1, d2] }
  | _ => none }
def WitnessEndsWrongFalsely : Prop := witnessEndsRow.holds Try.pinned (OpenSpec.ofChange witnessEndsWrong)

/-- 'limekilnlaw25.WitnessLinear': WHATEVER THE INPUT: true; the input reads as it did. -/
def witnessLinearSpec : ChangeSpec := { name := "witnessLinear", fn := fun _ => fun
  | [d1, d2] => { results := [.lit (.bool true)], args := [d1, d2] }
  | _ => none }
def witnessLinearRow : OpenClaim := { program := "ytnehocjmgnhhhaa", sum := "149778621c94a8ee0e219d3e0402184300f5adfd7647aa2822aac36db9810d78", func := "limekiln/limekilnlaw25.WitnessLinear", spec := "witnessLinear", inPlace := ["slices.overlaps[uint32]", "slices.overlaps[limekiln/api.Pair]"], unfollowed := true, recurses := true, apart := false }
def WitnessLinearSaid : Prop := witnessLinearRow.holds Try.pinned (OpenSpec.ofChange witnessLinearSpec)

/-- ITS FALSE NEIGHBOUR: 'it returns false'. Refute it at one input. -/
def witnessLinearWrong : ChangeSpec := { name := "witnessLinear", fn := fun _ => fun
  | [d1, d2] => { results := [.lit (.bool false)], args := [d1, d2] }
  | _ => none }
def WitnessLinearWrongFalsely : Prop := witnessLinearRow.holds Try.pinned (OpenSpec.ofChange witnessLinearWrong)

/- THE SECOND FORM. 'bulk': how many values and letters a reading holds, each counted each time it is reached (what is shared counts as often as it is met; a slice's spare places count too). A statement '..UptoSaid' is the law's where the arguments, and the package variables that the reading takes, are together of bulk at most 1048576: NARROWER than '..Said'. Prove '..Said' where nothing that the law and all that it calls make is longer than what came in: it says more and counts as full. Else prove '..UptoSaid'. A law counts once. -/
mutual
def uptoBulk {H : Type} : DataW H → Nat
  | .lit (.string bytes) => bytes.length + 1
  | .lit _ => 1
  | .nil => 1
  | .ptr d => uptoBulk d + 1
  | .slice elems spare => uptoBulkAll elems + uptoBulkAll spare + 1
  | .agg parts => uptoBulkAll parts + 1
  | .iface _ d => uptoBulk d + 1
  | .map entries => uptoBulkEntries entries + 1
  | .held _ => 1
def uptoBulkAll {H : Type} : List (DataW H) → Nat
  | [] => 0
  | d :: r => uptoBulk d + uptoBulkAll r
def uptoBulkEntries {H : Type} : List (Lit × DataW H) → Nat
  | [] => 0
  | x :: r => uptoBulkEntry x + uptoBulkEntries r
def uptoBulkEntry {H : Type} : Lit × DataW H → Nat
  | (.string bytes, d) => bytes.length + uptoBulk d + 1
  | (_, d) => uptoBulk d + 1
 end
def uptoSmall : (H : Type) → List (DataW H) → Bool := fun _ ds => decide (uptoBulkAll ds ≤ 1048576)
def OpenSpec.upto (s : _root_.Go.ChangeSpec) : _root_.Go.OpenSpec := { _root_.Go.OpenSpec.ofChange s with cond := some uptoSmall }

/-- 'limekilnlaw25.WitnessOrders', WHERE WHAT IT READS IS OF BULK AT MOST 1048576: true; the input reads as it did. -/
def witnessOrdersUptoRow : OpenClaim := { program := "ytnehocjmgnhhhaa", sum := "149778621c94a8ee0e219d3e0402184300f5adfd7647aa2822aac36db9810d78", func := "limekiln/limekilnlaw25.WitnessOrders", spec := "witnessOrders", inPlace := ["slices.overlaps[uint32]", "slices.overlaps[limekiln/api.Pair]"], unfollowed := true, recurses := true, apart := false, narrowed := true }
def WitnessOrdersUptoSaid : Prop := witnessOrdersUptoRow.holds Try.pinned (OpenSpec.upto witnessOrdersSpec)

/-- 'limekilnlaw25.WitnessChecks', WHERE WHAT IT READS IS OF BULK AT MOST 1048576: true; the input reads as it did. -/
def witnessChecksUptoRow : OpenClaim := { program := "ytnehocjmgnhhhaa", sum := "149778621c94a8ee0e219d3e0402184300f5adfd7647aa2822aac36db9810d78", func := "limekiln/limekilnlaw25.WitnessChecks", spec := "witnessChecks", inPlace := ["slices.overlaps[uint32]", "slices.overlaps[limekiln/api.Pair]"], unfollowed := true, recurses := true, apart := false, narrowed := true }
def WitnessChecksUptoSaid : Prop := witnessChecksUptoRow.holds Try.pinned (OpenSpec.upto witnessChecksSpec)

/-- 'limekilnlaw25.WitnessEnds', WHERE WHAT IT READS IS OF BULK AT MOST 1048576: true; the input reads as it did. -/
def witnessEndsUptoRow : OpenClaim := { program := "ytnehocjmgnhhhaa", sum := "149778621c94a8ee0e219d3e0402184300f5adfd7647aa2822aac36db9810d78", func := "limekiln/limekilnlaw25.WitnessEnds", spec := "witnessEnds", inPlace := ["slices.overlaps[uint32]", "slices.overlaps[limekiln/api.Pair]"], unfollowed := true, recurses := true, apart := false, narrowed := true }
def WitnessEndsUptoSaid : Prop := witnessEndsUptoRow.holds Try.pinned (OpenSpec.upto witnessEndsSpec)

/-- 'limekilnlaw25.WitnessLinear', WHERE WHAT IT READS IS OF BULK AT MOST 1048576: true; the input reads as it did. -/
def witnessLinearUptoRow : OpenClaim := { program := "ytnehocjmgnhhhaa", sum := "149778621c94a8ee0e219d3e0402184300f5adfd7647aa2822aac36db9810d78", func := "limekiln/limekilnlaw25.WitnessLinear", spec := "witnessLinear", inPlace := ["slices.overlaps[uint32]", "slices.overlaps[limekiln/api.Pair]"], unfollowed := true, recurses := true, apart := false, narrowed := true }
def WitnessLinearUptoSaid : Prop := witnessLinearUptoRow.holds Try.pinned (OpenSpec.upto witnessLinearSpec)

end Rows
end Go.Proofs.Ytnehocjmgnhhhaa
