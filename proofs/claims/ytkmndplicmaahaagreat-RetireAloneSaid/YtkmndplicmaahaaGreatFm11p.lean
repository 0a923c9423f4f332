/- Layer 11: the machines and the document's: the plain law. -/
import Derived.Test.YtkmndplicmaahaaGreatFr11
namespace Go.Proofs.YtkmndplicmaahaaGreat
open Go.RowKit
set_option linter.unusedVariables false
attribute [local irreducible] K.KW K.RW K.DW K.OW K.QR K.KC
inductive MachR where
 | res (S : ResS)
 | can (S : CanS)
 | sta (S : StaS)
 | rc (S : RecS)
def resGood (c : Cfg) (S : ResS) : Prop := S.good ∧ (S.pc = 0 → S.next < c.lo) ∧ (S.pc = 1 ∨ S.pc = 2 ∨ S.pc = 3 → S.place < c.lo)
def canGood (S : CanS) : Prop := S.good ∧ (S.pc = 0 ∨ S.pc = 5)
def MachR.good (c : Cfg) : MachR → Prop
 | .res S => resGood c S
 | .can S => canGood S
 | .sta S => S.good
 | .rc S => S.good c
def MachR.done : MachR → Bool
 | .res S => S.done
 | .can S => S.done
 | .sta S => S.done
 | .rc S => S.done
structure DM.ok (D : DM) : Prop where
 t : isInt D.t
 slot : isInt D.slot
 now : isW D.now
 pt : isInt D.push.t
 ps : isInt D.push.slot
 pw : isW D.push.top
section
variable {c : Cfg} {n nt : Nat} {D : DM} {M : MemM}
theorem onPc_n24 {x : Int} : ¬ (onPc c x = 2 ∨ onPc c x = 4) := by unfold onPc; split <;> omega
theorem onPc_4 {x : Int} : ¬ onPc c x = 4 := fun h => onPc_n24 (.inr h)
end
end Go.Proofs.YtkmndplicmaahaaGreat
