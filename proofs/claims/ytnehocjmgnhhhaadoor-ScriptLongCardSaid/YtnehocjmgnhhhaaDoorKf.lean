import Derived.Test.YtnehocjmgnhhhaaDoorKh
import Derived.Test.YtnehocjmgnhhhaaDoorKi
/- Groups of memory: a range over a function whose rounds may leave it. -/
namespace Go.Proofs.YtnehocjmgnhhhaaDoor
open Go.RowKit
set_option linter.unusedVariables false
namespace K
section
variable {P : Program} {n : Nat} {F : Fr} {w w' w0 : World} {ls : List Cs} {Q : Exit → Fr → World → Prop}
/-- yield called on the group m answers some b, and leaves R b -/
def YGb (P : Program) (w0 : World) (l : Nat) (args : List Value) (m : Cs) (R : Bool → Cs → Prop) : Prop :=
  ∀ (fr : Cs) (w : World), Sat w0 [m, fr] w → YS P l args w (fun v w' => ∃ b, v = .bool b ∧ ∃ m', R b m' ∧ Sat w0 [m', fr] w')
/-- a call of yield whose answer is not known -/
theorem RY.gyieldb {ops : Array Oper} {o : Oper} {rest : List Oper} {x : Operand} {l : Nat} {as_ : List Operand} {ats : Array TypeId} {d : Option Nat} {m : Cs} {R : Bool → Cs → Prop} (hS : Sat w0 ls w) (i : Nat) (others : List Nat) (vs : List Value)
    (hy : YGb P w0 l vs m R) (hi : nth ls i = m) (hg : gd ops n F o = true) (h : ∀ b w' m', R b m' → Sat w0 (m' :: pick others ls) w' → RY P n ops rest Q (updo F d (.bool b)) w')
    (hd : o.dst = d := by rfl) (ho : o.op = .call { callee := .value x, args := as_.toArray, argTypes := ats } := by rfl) (hx : ev n F x = .func (.yield l) #[] #[] := by rfl) (hv : as_.map (ev n F) = vs := by rfl) (hp : (i :: others).Nodup := by decide) : RY P n ops (o :: rest) Q F w := by
  have hS2 : Sat w0 [m, (pick others ls).flatten] w := (hS.pick (i :: others) hp).of (by show (nth ls i :: pick others ls).flatten = _; rw [hi]; simp)
  refine RY.yield hd hg vs ho hx hv (hy _ _ hS2) ?_
  rintro v w' ⟨b, rfl, m', h1, h2⟩
  exact h b w' m' h1 (h2.of (by simp))
/-- a function that yields the parts of a text, until a round leaves it -/
theorem KC.mix {f : FuncId} {args : Array Value} {l : Nat} {Q' : Value → World → Prop} {J : Nat → List UInt8 → Cs → Prop} {E : Cs → Prop} {g : Nat → List UInt8 → List Value} {T : List UInt8} (nxt : List UInt8 → List UInt8) (hS : Sat w0 ls w) (i : Nat) (rest : List Nat)
    (hit : ∀ (J : Nat → List UInt8 → Cs → Prop) (E : Cs → Prop), (∀ k L m, L ≠ [] → J k L m → YGb P w0 l (g k L) m (fun b m' => (b = true ∧ J (k + 1) (nxt L) m') ∨ (b = false ∧ E m'))) → ∀ m, J 0 T m → GC P w0 f args [nth ls i, m] (fun _ post => ∃ q m', post = [q, m'] ∧ ((∃ k, J k [] m') ∨ E m')))
    (h0 : J 0 T (pick rest ls).flatten) (hr : ∀ k L m, L ≠ [] → J k L m → YGb P w0 l (g k L) m (fun b m' => (b = true ∧ J (k + 1) (nxt L) m') ∨ (b = false ∧ E m')))
    (h : ∀ v k m' w, J k [] m' → Sat w0 [m'] w → Q' v w) (hE : ∀ v m' w, E m' → Sat w0 [m'] w → Q' v w) (hp : (i :: rest).Nodup := by decide) : KC P f args w Q' := by
  refine KC.mono (hit J E hr _ h0 [] w ?_) ?_
  · exact (hS.pick (i :: rest) hp).of (by show (nth ls i :: pick rest ls).flatten = _; simp)
  · rintro v w' ⟨post, ⟨q, m', rfl, h1⟩, h2⟩
    have h3 : Sat w0 [m'] w' := (h2.pick [1]).of (by simp [pick, nth])
    rcases h1 with ⟨k, h1⟩ | h1
    · exact h v k m' w' h1 h3
    · exact hE v m' w' h1 h3
end
end K
end Go.Proofs.YtnehocjmgnhhhaaDoor
