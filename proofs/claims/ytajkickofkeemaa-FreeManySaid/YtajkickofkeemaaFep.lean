/- Epochs: the machines' steps. -/
import Derived.Test.YtajkickofkeemaaKi
import Derived.Test.YtajkickofkeemaaFfr
import Derived.Test.YtajkickofkeemaaKn
namespace Go.Proofs.Ytajkickofkeemaa
open Go.RowKit
set_option linter.unusedVariables false
attribute [local irreducible] K.KW K.RW K.DW K.OW K.QR K.KC
structure EntS where
 t : Int
 done : Bool
 now : Int
 told : Bool
structure LeaS where
 t : Int
 done : Bool
structure AdvS where
 t : Int
 done : Bool
 pc : Int
 now : Int
 next : Int
 moved : Bool
def EntS.good (S : EntS) : Prop := isInt S.t ∧ isW S.now
def LeaS.good (S : LeaS) : Prop := isInt S.t
def AdvS.good (S : AdvS) : Prop := isInt S.t ∧ isW S.now ∧ (0 ≤ S.next ∧ S.next ≤ 64) ∧ (S.done = true ∨ (S.pc = 0 ∧ S.next = 0) ∨ S.pc = 1)
end Go.Proofs.Ytajkickofkeemaa
