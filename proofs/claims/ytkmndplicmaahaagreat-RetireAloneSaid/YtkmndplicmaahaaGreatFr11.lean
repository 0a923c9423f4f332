/- The document's machine of layer 11. -/
import Derived.Test.YtkmndplicmaahaaGreatFre3
import Derived.Test.YtkmndplicmaahaaGreatKn
namespace Go.Proofs.YtkmndplicmaahaaGreat
open Go.RowKit
set_option linter.unusedVariables false
attribute [local irreducible] K.KW K.RW K.DW K.OW K.QR K.KC
structure PuD where
 t : Int
 line : Int
 top : Int
 slot : Int
structure DM where
 t : Int
 kind : Int
 line : Int
 n : Int
 slot : Int
 place : Int
 now : Int
 holds : Int
 count : Int
 pc : Cfg
 push : PuD
structure DM.good (c : Cfg) (D : DM) : Prop where
 t : isInt D.t
 n : isInt D.n
 slot : isInt D.slot
 now : isW D.now
 cnt : 0 ≤ D.count ∧ D.count ≤ 64
 pt : isInt D.push.t
 ps : isInt D.push.slot
 pw : isW D.push.top
 nb : D.kind = 0 ∨ D.kind = 3 → 0 ≤ D.n ∧ D.n ≤ 64
 pc : D.kind = 3 ∧ ¬ D.line = 1 ∧ ¬ D.line = 2 ∧ ¬ D.line = 3 ∧ ¬ D.line = 0 → D.pc = c
end Go.Proofs.YtkmndplicmaahaaGreat
