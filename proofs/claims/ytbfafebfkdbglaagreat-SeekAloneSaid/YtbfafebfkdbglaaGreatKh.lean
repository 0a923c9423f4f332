/- Groups of memory: 'clear' of a whole row of the call's own. -/
import Derived.Test.YtbfafebfkdbglaaGreatKg
namespace Go.Proofs.YtbfafebfkdbglaaGreat
open Go.RowKit
set_option linter.unusedVariables false
namespace K
section
variable {P : Program} {n : Nat} {F : Fr} {w w0 : World} {ls : List Cs} {K : Fr → World → Prop}
theorem OW.gcallw {o : Oper} {dd : Option Nat} {f : FuncId} {x : Operand} {l : List Operand} {ats : Array TypeId} {R : Value → List Cs → Prop} {v1 v2 : List Value} (hS : Sat w0 ls w) (is rest : List Nat) (vs : List Value) (hk : GC P w0 f vs.toArray (pick is ls) R)
    (h : ∀ v post w', R v post → Sat w0 (post ++ pick rest ls) w' → K (updo F dd v) w') (hd : o.dst = dd := by rfl) (ho : o.op = .call { callee := .value x, args := l.toArray, argTypes := ats } := by rfl) (hx : ev n F x = .func (.func f) v1.toArray v2.toArray := by rfl)
    (hv : v1 ++ l.map (ev n F) ++ v2 = vs := by rfl) (hf : callable P f = true := by kernel_rfl) (hp : (is ++ rest).Nodup := by decide) : OW P n F o w K :=
  OW.gcallv hS is rest vs hk h hx hd ho hv hf hp
/-- a contract on one of three groups that are held as one -/
theorem GC.in3 {f : FuncId} {args : Array Value} {A B md : Cs} {R : Value → List Cs → Prop} (h : GC P w0 f args [md] R) (hn : ∀ v post, R v post → ∃ md' rest, post = md' :: rest) :
    GC P w0 f args [[A, B, md].flatten] (fun v post => ∃ md' rest, R v (md' :: rest) ∧ post = [A, B, md'].flatten :: rest) := fun fr w hS => by
  have h1 : Sat w0 [A, B, md, fr] w := hS.of (by simp)
  have h2 : Sat w0 ([md] ++ [[A, B, fr].flatten]) w := (h1.pick [2, 0, 1, 3]).of (by simp [pick, nth])
  refine KC.mono (h _ w h2) ?_
  rintro v w' ⟨post, hR, hS'⟩
  obtain ⟨md', rest, rfl⟩ := hn v post hR
  have h3 : Sat w0 [md', rest.flatten, A, B, fr] w' := hS'.of (by simp)
  exact ⟨_, ⟨md', rest, hR, rfl⟩, (h3.pick [2, 3, 0, 1, 4]).of (by simp [pick, nth])⟩
end
end K
end Go.Proofs.YtbfafebfkdbglaaGreat
