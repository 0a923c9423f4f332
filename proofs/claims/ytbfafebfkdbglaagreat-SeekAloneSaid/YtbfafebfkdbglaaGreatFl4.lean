/- Layer 4: an act on both devices; are they one? -/
import Derived.Test.YtbfafebfkdbglaaGreatFrd3
namespace Go.Proofs.YtbfafebfkdbglaaGreat
open Go.RowKit
set_option linter.unusedVariables false
attribute [local irreducible] K.KW K.RW K.DW K.OW K.QR K.KC
/-- something that is done to a device -/
structure ActM where
 kind : Int
 thread : Int
 line : Int
 at_ : Int
 w : Int
def a0 : ActM := ⟨0, 0, 0, 0, 0⟩
def ActM.good (a : ActM) : Prop := isInt a.kind ∧ isInt a.thread ∧ isInt a.line ∧ isInt a.at_
end Go.Proofs.YtbfafebfkdbglaaGreat
