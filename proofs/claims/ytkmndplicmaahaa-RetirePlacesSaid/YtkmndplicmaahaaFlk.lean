/- Links: words, and the machines' steps. -/
import Derived.Test.YtkmndplicmaahaaKn
import Derived.Test.YtkmndplicmaahaaKi
import Derived.Test.YtkmndplicmaahaaFl9
namespace Go.Proofs.Ytkmndplicmaahaa
open Go.RowKit
set_option linter.unusedVariables false
attribute [local irreducible] K.KW K.RW K.DW K.OW K.QR K.KC
structure RdS where
 t : Int
 at_ : Int
 pc : Int
 word : Int
 when_ : Int
structure SeS where
 t : Int
 at_ : Int
 pc : Int
 word : Int
 when_ : Int
 old : Int
 put : Bool
 writes : Int
/-- a link that is not dirty -/
def isL (w : Int) : Prop := 0 ≤ w ∧ w < 9223372036854775808
theorem isL.w {w : Int} (h : isL w) : isW w := by unfold isL at h; unfold isW; omega
def RdS.good (S : RdS) : Prop := isInt S.t ∧ isInt S.at_ ∧ (0 ≤ S.pc ∧ S.pc ≤ 4) ∧ isL S.word ∧ isInt S.when_
def SeS.good (S : SeS) : Prop := isInt S.t ∧ isInt S.at_ ∧ (0 ≤ S.pc ∧ S.pc ≤ 4) ∧ isL S.word ∧ isL S.old ∧ (S.pc = 0 → S.put = false ∧ S.when_ = -1 ∧ S.writes = 0)
def RdS.done (S : RdS) : Bool := decide (S.pc = 4)
def SeS.done (S : SeS) : Bool := decide (S.pc = 4)
end Go.Proofs.Ytkmndplicmaahaa
