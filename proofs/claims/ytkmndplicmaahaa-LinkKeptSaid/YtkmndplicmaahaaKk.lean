/- Groups of memory: a row with room, of which each element has blocks of its own. -/
import Derived.Test.YtkmndplicmaahaaKj
namespace Go.Proofs.Ytkmndplicmaahaa
open Go.RowKit
set_option linter.unusedVariables false
def cU16 (x : Int) : List Value := [.int .u16 x]
def cRaw (l : List Value) : List Value := l
namespace K
/-- as Hands, with room for cap elements -/
def HandsC {β : Type} (el : β → List Value → Cs → Prop) (e : TypeId) (sz cap : Nat) (l : Cs) (a : Option Addr) (hs : List β) : Prop :=
  ∃ (row : Cs) (gs : List Cs) (cs : List (List Value)), l = row ++ gs.flatten ∧ OwnG row e sz a hs.length cap cs.flatten ∧ gs.length = hs.length ∧ cs.length = hs.length ∧ (∀ c ∈ cs, c.length = sz) ∧
    ∀ i S, hs[i]? = some S → el S (cs.getD i []) (gs.getD i [])
section
variable {β : Type} {el : β → List Value → Cs → Prop} {e : TypeId} {sz cap : Nat} {l : Cs} {a : Option Addr} {hs : List β}
/-- the element t laid open, and shut again -/
theorem HandsC.open_ (h : HandsC el e sz cap l a hs) (t : Nat) (S : β) (hS : hs[t]? = some S) :
    ∃ (row A g B : Cs) (cs : List (List Value)), l = row ++ (A ++ (g ++ B)) ∧ cs.length = hs.length ∧ (∀ c ∈ cs, c.length = sz) ∧ t < hs.length ∧ (cs.getD t []).length = sz ∧ el S (cs.getD t []) g ∧ OwnG row e sz a hs.length cap (cs.set t (cs.getD t [])).flatten ∧
      ∀ (row' g' : Cs) (S' : β) (c' : List Value), c'.length = sz → el S' c' g' → OwnG row' e sz a hs.length cap (cs.set t c').flatten → HandsC el e sz cap (row' ++ (A ++ (g' ++ B))) a (hs.set t S') := by
  obtain ⟨row, gs, cs, hl, ho, h1, h2, h3, h4⟩ := h
  have ht : t < hs.length := (List.getElem?_eq_some_iff.1 hS).1
  have hc : (cs.getD t []).length = sz := h3 _ (by
    have : cs.getD t [] = cs[t]'(by omega) := by simp [h2, ht]
    rw [this]; exact List.getElem_mem _)
  refine ⟨row, (gs.take t).flatten, gs.getD t [], (gs.drop (t + 1)).flatten, cs, by rw [hl, fl_at (cs := gs) (t := t) (by omega)], h2, h3, ht, hc, h4 t S hS, by rw [fl_self]; exact ho, ?_⟩
  intro row' g' S' c' hc' hel ho'
  refine ⟨row', gs.set t g', cs.set t c', by rw [fl_set g' (by omega)], by rw [List.length_set]; exact ho', by simp [h1], by simp [h2], fl_all h3 hc', ?_⟩
  intro i X hX
  rw [List.getElem?_set] at hX
  by_cases hi : t = i
  · subst hi
    rw [if_pos rfl, if_pos ht] at hX
    cases hX
    have e1 : (cs.set t c').getD t [] = c' := by simp [h2, ht]
    have e2 : (gs.set t g').getD t [] = g' := by simp [h1, ht]
    rw [e1, e2]; exact hel
  · rw [if_neg hi] at hX
    have e1 : (cs.set t c').getD i [] = cs.getD i [] := by simp [List.getD_eq_getElem?_getD, List.getElem?_set, hi]
    have e2 : (gs.set t g').getD i [] = gs.getD i [] := by simp [List.getD_eq_getElem?_getD, List.getElem?_set, hi]
    rw [e1, e2]; exact h4 i X hX
/-- the blocks behind a row of single cells -/
def Blks (el : β → List Value → Cs → Prop) (vs : List Value) (hs : List β) (g : Cs) : Prop := ∃ gs : List Cs, g = gs.flatten ∧ gs.length = hs.length ∧ vs.length = hs.length ∧ ∀ i S, hs[i]? = some S → el S [vs.getD i (.pointer none)] (gs.getD i [])
theorem QR.quo16 {P : Program} {n : Nat} {F : Fr} {w : World} {o : Oper} (x : Int) (h : (execOp (ev n F) o).run P w = .ok (.value (.int .u16 (IntKind.u16.wrap (x.tdiv 16)))) w) (hx : 0 ≤ x ∧ x ≤ 65535) : QR P n F o (.int .u16 (x / 16)) w :=
  QR.nice h (by rw [Int.tdiv_eq_ediv_of_nonneg hx.1]; simp [IntKind.wrap, IntKind.bits, IntKind.signed]; omega)
theorem ex_at {α : Type} {hs : List α} {t : Nat} (h : t < hs.length) : ∃ S, hs[t]? = some S := ⟨hs[t], List.getElem?_eq_getElem h⟩
theorem Blks.nil : Blks el [] [] [] := ⟨[], rfl, rfl, rfl, fun i S h => by simp at h⟩
theorem Blks.snoc {vs : List Value} {g g1 : Cs} {S : β} {v : Value} (h : Blks el vs hs g) (hel : el S [v] g1) : Blks el (vs ++ [v]) (hs ++ [S]) [g, g1].flatten := by
  obtain ⟨gs, rfl, h1, h2, h3⟩ := h
  refine ⟨gs ++ [g1], by simp, by simp [h1], by simp [h2], ?_⟩
  intro i X hX
  by_cases hi : i < hs.length
  · rw [List.getElem?_append_left hi] at hX
    have e1 : (vs ++ [v]).getD i (.pointer none) = vs.getD i (.pointer none) := by rw [List.getD_eq_getElem?_getD, List.getElem?_append_left (by omega), ← List.getD_eq_getElem?_getD]
    have e2 : (gs ++ [g1]).getD i [] = gs.getD i [] := by rw [List.getD_eq_getElem?_getD, List.getElem?_append_left (by omega), ← List.getD_eq_getElem?_getD]
    rw [e1, e2]; exact h3 i X hX
  · have hl : i = hs.length := by
      have := (List.getElem?_eq_some_iff.1 hX).1
      simp at this; omega
    subst hl
    rw [List.getElem?_append_right (by omega), Nat.sub_self] at hX
    cases hX
    have e1 : (vs ++ [v]).getD hs.length (.pointer none) = v := by rw [List.getD_eq_getElem?_getD, List.getElem?_append_right (by omega), h2]; simp
    have e2 : (gs ++ [g1]).getD hs.length [] = g1 := by rw [List.getD_eq_getElem?_getD, List.getElem?_append_right (by omega), h1]; simp
    rw [e1, e2]; exact hel
end
end K
end Go.Proofs.Ytkmndplicmaahaa
