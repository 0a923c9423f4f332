import Derived.Test.YtnehocjmgnhhhaaDoorKh
/- Groups of memory: ranges over functions. -/
namespace Go.Proofs.YtnehocjmgnhhhaaDoor
open Go.RowKit
set_option linter.unusedVariables false
namespace K
section
variable {P : Program} {n : Nat} {F : Fr} {w w' w0 : World} {ls : List Cs} {Q : Exit → Fr → World → Prop}
theorem Sat.turn {l : Nat} {o o' : Obj} {g : Cs} (h : Sat w0 ls w) (i : Nat) (hi : nth ls i = g) (hg : g = [(l, o)]) (ht : Turn l w w') (ho : Ob w' l o') : Sat w0 (setn ls i [(l, o')]) w' := by
  have hid : ids (nth ls i) = [l] := by rw [hi, hg]; rfl
  refine h.put i _ ht.chg (fun k hk => by rw [hid]; exact List.mem_singleton.2 hk) (by simp [ids]) (fun c hcm => ?_)
  rw [List.mem_singleton.1 hcm, hid]
  exact ⟨ho.1, .inl (List.mem_singleton.2 rfl)⟩
/-- one object turned, and nothing more is said of it -/
theorem Sat.drop {l : Nat} {o : Obj} {g : Cs} (h : Sat w0 ls w) (i : Nat) (rest : List Nat) (hi : nth ls i = g) (hg : g = [(l, o)]) (ht : Turn l w w') (hp : (i :: rest).Nodup) : Sat w0 (K.pick rest ls) w' := by
  have h1 := h.pick (i :: rest) hp
  have hl : w0.heap.size ≤ l := (h1.own (l, o) (by show _ ∈ (nth ls i :: K.pick rest ls).flatten; rw [hi, hg]; simp)).1
  have hnd := h1.nd
  rw [show K.pick (i :: rest) ls = nth ls i :: K.pick rest ls from rfl, List.flatten_cons, ids_app, hi, hg, List.nodup_append] at hnd
  refine ⟨h1.chg.trans ht.chg (fun k hk hy => by unfold Is at hy; omega), hnd.2.1, fun c hc => ?_⟩
  have h2 := h1.own c (by show _ ∈ (nth ls i :: K.pick rest ls).flatten; rw [List.flatten_cons, List.mem_append]; exact .inr hc)
  have hne : c.1 ≠ l := fun e => hnd.2.2 l (by simp [ids]) c.1 (mem_ids hc) e.symm
  exact ⟨h2.1, (ht.block c.1 hne).trans h2.2⟩
/-- yield called on the group m answers b, and leaves R -/
def YG (P : Program) (w0 : World) (l : Nat) (args : List Value) (b : Bool) (m : Cs) (R : Cs → Prop) : Prop :=
  ∀ (fr : Cs) (w : World), Sat w0 [m, fr] w → YS P l args w (fun v w' => v = .bool b ∧ ∃ m', R m' ∧ Sat w0 [m', fr] w')
/-- a function that yields once, and is left there -/
theorem KC.one {f : FuncId} {args : Array Value} {yargs : List Value} {l : Nat} {Q' : Value → World → Prop} (hS : Sat w0 ls w) (is rest : List Nat)
    (hit : ∀ (m : Cs) (R : Cs → Prop), YG P w0 l yargs false m R → GC P w0 f args (pick is ls ++ [m]) (fun _ post => ∃ m', post = pick is ls ++ [m'] ∧ R m'))
    (h : YG P w0 l yargs false (pick rest ls).flatten (fun m' => ∀ v w, Sat w0 (pick is ls ++ [m']) w → Q' v w)) (hp : (is ++ rest).Nodup := by decide) : KC P f args w Q' := by
  refine KC.mono (hit _ _ h [] w ?_) ?_
  · refine (hS.pick (is ++ rest) hp).of ?_
    have : ∀ is rest : List Nat, pick (is ++ rest) ls = pick is ls ++ pick rest ls := by
      intro is rest
      induction is with
      | nil => rfl
      | cons i is ih => show nth ls i :: pick (is ++ rest) ls = _; rw [ih]; rfl
    rw [this]; simp
  · rintro v w' ⟨post, ⟨m', rfl, h1⟩, h2⟩
    exact h1 v w' (h2.of (by simp))
end
end K
end Go.Proofs.YtnehocjmgnhhhaaDoor
