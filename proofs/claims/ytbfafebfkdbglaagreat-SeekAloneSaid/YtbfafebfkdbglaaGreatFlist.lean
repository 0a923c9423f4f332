/- Lists of plain values as cells; Same tells whether two lists of words are one. -/
import Derived.Test.YtbfafebfkdbglaaGreatKz
import Derived.Test.YtbfafebfkdbglaaGreatKn
namespace Go.Proofs.YtbfafebfkdbglaaGreat
open Go.RowKit
set_option linter.unusedVariables false
attribute [local irreducible] K.KW K.RW K.DW K.OW K.QR K.KC
def cU64 (x : Int) : List Value := [.int .u64 x]
def cI64 (x : Int) : List Value := [.int .i64 x]
def cBool (x : Bool) : List Value := [.bool x]
abbrev RU64 (w : World) (a : Option Addr) (xs : List Int) : Prop := K.RowE w a xs.length 1 (fun i => cU64 (xs.getD i 0))
abbrev RI64 (w : World) (a : Option Addr) (xs : List Int) : Prop := K.RowE w a xs.length 1 (fun i => cI64 (xs.getD i 0))
theorem calls_of_kc {P : Program} {f : FuncId} {args : Array Value} {w : World} (h : K.KC P f args w (fun v w' => v = .bool true ∧ K.Chg K.No w w')) :
  Calls P f args w fun e w' => e = .returned (.bool true) ∧ Below w.heap.size w w' := by
 unfold K.KC at h
 exact Calls.mono h fun e w' ⟨v, he, hv, hc⟩ => ⟨by rw [he, hv], hc.below_no⟩
end Go.Proofs.YtbfafebfkdbglaaGreat
