/- Groups of memory: a row with room, of which each element has blocks of its own. -/
import Derived.Test.YtkmndplicmaahaaGreatKh
import Derived.Test.YtkmndplicmaahaaGreatKi
namespace Go.Proofs.YtkmndplicmaahaaGreat
open Go.RowKit
set_option linter.unusedVariables false
namespace K
section
variable {β : Type} {el : β → List Value → Cs → Prop} {e : TypeId} {sz cap : Nat} {l : Cs} {a : Option Addr} {hs : List β}
/-- the blocks behind a row of single cells -/
def Blks (el : β → List Value → Cs → Prop) (vs : List Value) (hs : List β) (g : Cs) : Prop := ∃ gs : List Cs, g = gs.flatten ∧ gs.length = hs.length ∧ vs.length = hs.length ∧ ∀ i S, hs[i]? = some S → el S [vs.getD i (.pointer none)] (gs.getD i [])
/-- as KC.one, for what stays of the groups only (of which the function, too, reads some) -/
theorem KC.oneS {P : Program} {w w0 : World} {ls : List Cs} {f : FuncId} {args : Array Value} {yargs : List Value} {l : Nat} {Q' : Value → World → Prop} (hS : Sat w0 ls w) (is rest : List Nat)
    (hit : ∀ (R : Cs → Prop), YG P w0 l yargs false (pick rest ls).flatten R → GC P w0 f args (pick is ls ++ [(pick rest ls).flatten]) (fun _ post => ∃ m', post = pick is ls ++ [m'] ∧ R m'))
    (h : YG P w0 l yargs false (pick rest ls).flatten (fun m' => ∀ v w, Sat w0 (pick is ls ++ [m']) w → Q' v w)) (hp : (is ++ rest).Nodup := by decide) : KC P f args w Q' := by
  refine KC.mono (hit _ h [] w ?_) ?_
  · refine (hS.pick (is ++ rest) hp).of ?_
    have : ∀ is rest : List Nat, pick (is ++ rest) ls = pick is ls ++ pick rest ls := by
      intro is rest
      induction is with
      | nil => rfl
      | cons i is ih => show nth ls i :: pick (is ++ rest) ls = _; rw [ih]; rfl
    rw [this]; simp
  · rintro v w' ⟨post, ⟨m', rfl, h1⟩, h2⟩
    exact h1 v w' (h2.of (by simp))
/-- a function that yields to its end, and reads a group that the rounds read too: J holds behind each round -/
theorem KC.allsS {P : Program} {w w0 : World} {ls : List Cs} {f : FuncId} {args : Array Value} {l : Nat} {Q' : Value → World → Prop} {J : Nat → Cs → Prop} {b : Nat} {g : Nat → List Value} (hS : Sat w0 ls w) (is rest : List Nat) (gi : Nat)
    (hit : ∀ (J : Nat → Cs → Prop), (∀ k m', k < b → J k m' → YG P w0 l (g k) true [nth ls gi, m'].flatten (fun m1 => ∃ m1', m1 = [nth ls gi, m1'].flatten ∧ J (k + 1) m1')) → ∀ m', J 0 m' → GC P w0 f args (pick is ls ++ [nth ls gi, m']) (fun _ post => ∃ m1', post = pick is ls ++ [nth ls gi, m1'] ∧ J b m1'))
    (h0 : J 0 (pick rest ls).flatten) (hr : ∀ k m', k < b → J k m' → YG P w0 l (g k) true [nth ls gi, m'].flatten (fun m1 => ∃ m1', m1 = [nth ls gi, m1'].flatten ∧ J (k + 1) m1'))
    (h : ∀ v m' w, J b m' → Sat w0 (pick is ls ++ [nth ls gi, m']) w → Q' v w) (hp : (is ++ gi :: rest).Nodup := by decide) : KC P f args w Q' := by
  refine KC.mono (hit J hr _ h0 [] w ?_) ?_
  · refine (hS.pick (is ++ gi :: rest) hp).of ?_
    have : ∀ is rest : List Nat, pick (is ++ rest) ls = pick is ls ++ pick rest ls := by
      intro is rest
      induction is with
      | nil => rfl
      | cons i is ih => show nth ls i :: pick (is ++ rest) ls = _; rw [ih]; rfl
    rw [this, show pick (gi :: rest) ls = nth ls gi :: pick rest ls from rfl]; simp
  · rintro v w' ⟨post, ⟨m', rfl, h1⟩, h2⟩
    exact h v m' w' h1 (h2.of (by simp))
theorem Blks.nil : Blks el [] [] [] := ⟨[], rfl, rfl, rfl, fun i S h => by simp at h⟩
theorem Blks.snoc {vs : List Value} {g g1 : Cs} {S : β} {v : Value} (h : Blks el vs hs g) (hel : el S [v] g1) : Blks el (vs ++ [v]) (hs ++ [S]) [g, g1].flatten := by
  obtain ⟨gs, rfl, h1, h2, h3⟩ := h
  refine ⟨gs ++ [g1], by simp, by simp [h1], by simp [h2], ?_⟩
  intro i X hX
  by_cases hi : i < hs.length
  · rw [List.getElem?_append_left hi] at hX
    have e1 : (vs ++ [v]).getD i (.pointer none) = vs.getD i (.pointer none) := by rw [List.getD_eq_getElem?_getD, List.getElem?_append_left (by omega), ← List.getD_eq_getElem?_getD]
    have e2 : (gs ++ [g1]).getD i [] = gs.getD i [] := by rw [List.getD_eq_getElem?_getD, List.getElem?_append_left (by omega), ← List.getD_eq_getElem?_getD]
    rw [e1, e2]; exact h3 i X hX
  · have hl : i = hs.length := by
      have := (List.getElem?_eq_some_iff.1 hX).1
      simp at this; omega
    subst hl
    rw [List.getElem?_append_right (by omega), Nat.sub_self] at hX
    cases hX
    have e1 : (vs ++ [v]).getD hs.length (.pointer none) = v := by rw [List.getD_eq_getElem?_getD, List.getElem?_append_right (by omega), h2]; simp
    have e2 : (gs ++ [g1]).getD hs.length [] = g1 := by rw [List.getD_eq_getElem?_getD, List.getElem?_append_right (by omega), h1]; simp
    rw [e1, e2]; exact hel
end
end K
end Go.Proofs.YtkmndplicmaahaaGreat
