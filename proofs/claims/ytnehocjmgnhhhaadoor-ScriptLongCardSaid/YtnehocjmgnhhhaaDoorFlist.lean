import Derived.Test.YtnehocjmgnhhhaaDoorKz
/- Lists of plain values as cells; Same tells whether two lists of words are one. -/
namespace Go.Proofs.YtnehocjmgnhhhaaDoor
open Go.RowKit
set_option linter.unusedVariables false
attribute [local irreducible] K.KW K.RW K.DW K.OW K.QR K.KC
def cI64 (x : Int) : List Value := [.int .i64 x]
def cU8 (x : Int) : List Value := [.int .u8 x]
theorem calls_of_kc {P : Program} {f : FuncId} {args : Array Value} {w : World} (h : K.KC P f args w (fun v w' => v = .bool true ∧ K.Chg K.No w w')) :
    Calls P f args w fun e w' => e = .returned (.bool true) ∧ Below w.heap.size w w' := by
  unfold K.KC at h
  exact Calls.mono h fun e w' ⟨v, he, hv, hc⟩ => ⟨by rw [he, hv], hc.below_no⟩
end Go.Proofs.YtnehocjmgnhhhaaDoor
