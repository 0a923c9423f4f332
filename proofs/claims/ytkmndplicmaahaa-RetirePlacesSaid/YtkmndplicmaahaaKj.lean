/- Groups of memory: a row of which each element has blocks of its own. -/
import Derived.Test.YtkmndplicmaahaaKh
namespace Go.Proofs.Ytkmndplicmaahaa
open Go.RowKit
set_option linter.unusedVariables false
namespace K
section
variable {β : Type} {el : β → List Value → Cs → Prop} {e : TypeId} {sz : Nat} {l : Cs} {a : Option Addr} {hs : List β}
theorem QR.remV {P : Program} {n : Nat} {F : Fr} {w : World} {o : Oper} {t y2 : TypeId} {x y : Operand} {k : IntKind} {a b z : Int} (ho : o.op = .binOp .rem t x y y2) (hx : ev n F x = .int k a) (hy : ev n F y = .int k b) (ha : 0 ≤ a) (hb : 1 ≤ b) (hz : a % b = z) : QR P n F o (.int k z) w := by
  unfold QR execOp
  rw [ho]
  have h1 : (eqGuard .rem t x y (.int k a) (.int k b)).run P w = .ok () w := rfl
  have h2 : ¬ b = 0 := by omega
  have h3 : a.tmod b = z := by rw [Int.tmod_eq_emod_of_nonneg ha, hz]
  simp [hx, hy, h1, binOp, Op.intDiv, h2, h3]
end
end K
end Go.Proofs.Ytkmndplicmaahaa
