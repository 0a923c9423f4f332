import Derived.Test.YtbfafebfkdbglaaGreatKg
/- Groups of memory: 'clear' of a whole row of the call's own. -/
namespace Go.Proofs.YtbfafebfkdbglaaGreat
open Go.RowKit
set_option linter.unusedVariables false
namespace K
section
variable {P : Program} {n : Nat} {F : Fr} {w w0 : World} {ls : List Cs} {K : Fr → World → Prop}
theorem OW.gcallw {o : Oper} {dd : Option Nat} {f : FuncId} {x : Operand} {l : List Operand} {ats : Array TypeId} {R : Value → List Cs → Prop} {v1 v2 : List Value} (hS : Sat w0 ls w) (is rest : List Nat) (vs : List Value) (hk : GC P w0 f vs.toArray (pick is ls) R)
    (h : ∀ v post w', R v post → Sat w0 (post ++ pick rest ls) w' → K (updo F dd v) w') (hd : o.dst = dd := by rfl) (ho : o.op = .call { callee := .value x, args := l.toArray, argTypes := ats } := by rfl) (hx : ev n F x = .func (.func f) v1.toArray v2.toArray := by rfl)
    (hv : v1 ++ l.map (ev n F) ++ v2 = vs := by rfl) (hf : callable P f = true := by kernel_rfl) (hp : (is ++ rest).Nodup := by decide) : OW P n F o w K :=
  OW.gcallv hS is rest vs hk h hx hd ho hv hf hp
/-- a contract on one of three groups that are held as one -/
theorem GC.in3 {f : FuncId} {args : Array Value} {A B md : Cs} {R : Value → List Cs → Prop} (h : GC P w0 f args [md] R) (hn : ∀ v post, R v post → ∃ md' rest, post = md' :: rest) :
    GC P w0 f args [[A, B, md].flatten] (fun v post => ∃ md' rest, R v (md' :: rest) ∧ post = [A, B, md'].flatten :: rest) := fun fr w hS => by
  have h1 : Sat w0 [A, B, md, fr] w := hS.of (by simp)
  have h2 : Sat w0 ([md] ++ [[A, B, fr].flatten]) w := (h1.pick [2, 0, 1, 3]).of (by simp [pick, nth])
  refine KC.mono (h _ w h2) ?_
  rintro v w' ⟨post, hR, hS'⟩
  obtain ⟨md', rest, rfl⟩ := hn v post hR
  have h3 : Sat w0 [md', rest.flatten, A, B, fr] w' := hS'.of (by simp)
  exact ⟨_, ⟨md', rest, hR, rfl⟩, (h3.pick [2, 3, 0, 1, 4]).of (by simp [pick, nth])⟩
end
end K
end Go.Proofs.YtbfafebfkdbglaaGreat

/- Groups of memory: a row of which each element has blocks of its own. -/
namespace Go.Proofs.YtbfafebfkdbglaaGreat
open Go.RowKit
set_option linter.unusedVariables false
namespace K
/-- a row of hs.length elements, sz cells each; el S c g: an element that stands as S has the cells c, and the blocks g -/
def Hands {β : Type} (el : β → List Value → Cs → Prop) (e : TypeId) (sz : Nat) (l : Cs) (a : Option Addr) (hs : List β) : Prop :=
  ∃ (row : Cs) (gs : List Cs) (cs : List (List Value)), l = row ++ gs.flatten ∧ OwnG row e sz a hs.length hs.length cs.flatten ∧ gs.length = hs.length ∧ cs.length = hs.length ∧ (∀ c ∈ cs, c.length = sz) ∧
    ∀ i S, hs[i]? = some S → el S (cs.getD i []) (gs.getD i [])
section
variable {β : Type} {el : β → List Value → Cs → Prop} {e : TypeId} {sz : Nat} {l : Cs} {a : Option Addr} {hs : List β}
/-- all alike, with no blocks -/
theorem Hands.init {row : Cs} {n : Nat} {zs : List Value} {S0 : β} (ho : OwnG row e sz a n n ((List.replicate n zs).flatten)) (hz : zs.length = sz) (h0 : el S0 zs []) : Hands el e sz row a (List.replicate n S0) := by
  refine ⟨row, List.replicate n [], List.replicate n zs, by simp, by simpa using ho, by simp, by simp, fun c hc => by rw [(List.mem_replicate.1 hc).2]; exact hz, ?_⟩
  intro i S hS
  obtain ⟨hi, rfl⟩ : i < n ∧ S0 = S := by
    rw [List.getElem?_replicate] at hS
    split at hS
    · rename_i h; cases hS; exact ⟨h, rfl⟩
    · cases hS
  have e1 : (List.replicate n zs).getD i [] = zs := by simp [hi]
  have e2 : (List.replicate n ([] : Cs)).getD i [] = [] := by simp [hi]
  rw [e1, e2]; exact h0
end
end K
end Go.Proofs.YtbfafebfkdbglaaGreat
