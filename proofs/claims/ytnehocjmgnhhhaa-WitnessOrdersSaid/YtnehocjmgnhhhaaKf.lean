import Derived.Test.YtnehocjmgnhhhaaFmo
import Derived.Test.YtnehocjmgnhhhaaKi
/- Groups of memory: a range over a function whose rounds may leave it. -/
namespace Go.Proofs.Ytnehocjmgnhhhaa
open Go.RowKit
set_option linter.unusedVariables false
namespace K
section
variable {P : Program} {n : Nat} {F : Fr} {w w' w0 : World} {ls : List Cs} {Q : Exit → Fr → World → Prop}
/-- yield called on the group m answers some b, and leaves R b -/
def YGb (P : Program) (w0 : World) (l : Nat) (args : List Value) (m : Cs) (R : Bool → Cs → Prop) : Prop :=
  ∀ (fr : Cs) (w : World), Sat w0 [m, fr] w → YS P l args w (fun v w' => ∃ b, v = .bool b ∧ ∃ m', R b m' ∧ Sat w0 [m', fr] w')
/-- a call of yield whose answer is not known -/
theorem RY.gyieldb {ops : Array Oper} {o : Oper} {rest : List Oper} {x : Operand} {l : Nat} {as_ : List Operand} {ats : Array TypeId} {d : Option Nat} {m : Cs} {R : Bool → Cs → Prop} (hS : Sat w0 ls w) (i : Nat) (others : List Nat) (vs : List Value)
    (hy : YGb P w0 l vs m R) (hi : nth ls i = m) (hg : gd ops n F o = true) (h : ∀ b w' m', R b m' → Sat w0 (m' :: pick others ls) w' → RY P n ops rest Q (updo F d (.bool b)) w')
    (hd : o.dst = d := by rfl) (ho : o.op = .call { callee := .value x, args := as_.toArray, argTypes := ats } := by rfl) (hx : ev n F x = .func (.yield l) #[] #[] := by rfl) (hv : as_.map (ev n F) = vs := by rfl) (hp : (i :: others).Nodup := by decide) : RY P n ops (o :: rest) Q F w := by
  have hS2 : Sat w0 [m, (pick others ls).flatten] w := (hS.pick (i :: others) hp).of (by show (nth ls i :: pick others ls).flatten = _; rw [hi]; simp)
  refine RY.yield hd hg vs ho hx hv (hy _ _ hS2) ?_
  rintro v w' ⟨b, rfl, m', h1, h2⟩
  exact h b w' m' h1 (h2.of (by simp))
end
end K
end Go.Proofs.Ytnehocjmgnhhhaa
