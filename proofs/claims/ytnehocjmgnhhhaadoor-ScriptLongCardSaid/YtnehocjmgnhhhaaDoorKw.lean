import Derived.Test.YtnehocjmgnhhhaaDoorKz
import Derived.Laws.CopyRow
import Derived.Laws.Append
import Derived.Laws.AppendOwn
/-
  Rows of the call's own, written in the midst: copy, clear, append with room and without. For any size of an element.
-/
namespace Go.Proofs.YtnehocjmgnhhhaaDoor
open Go.RowKit
set_option linter.unusedVariables false
namespace K
variable {P : Program} {n : Nat} {F : Fr} {w : World}
section
variable {w' : World} {base : Nat} {e : TypeId} {size m cap : Nat} {a : Option Addr} {xs : List Value}
/-- what lies behind a row of the call's own -/
theorem Own.cur {g : Nat} (h : Own w base e size (some ⟨g, 0, none⟩) m cap xs) : ∃ cur : Array Value, base ≤ g ∧ w.heap[g]? = some (.cells cur e (0, 0)) ∧ m ≤ cap ∧ cap ≤ maxLen ∧ cur.size = cap * size ∧ cur.toList.take (m * size) = xs := by
  rcases h.2 with ⟨h1, _⟩ | ⟨g', cap', cur, h1, h2, h3, h4, h5, h6, h7⟩
  · cases h1
  · simp only [Value.slice.injEq, Option.some.injEq, Addr.mk.injEq, and_true] at h1
    obtain ⟨rfl, -, rfl⟩ := h1
    exact ⟨cur, h2, h3, h4, h5, h6, h7⟩
theorem Own.of_cur {g : Nat} {cur : Array Value} (hg : w.heap[g]? = some (.cells cur e (0, 0))) (hb : base ≤ g) (hm : m ≤ cap) (hc : cap ≤ maxLen) (hs : cur.size = cap * size) (hx : cur.toList.take (m * size) = xs) :
    Own w base e size (some ⟨g, 0, none⟩) m cap xs :=
  ⟨by rw [← hx, List.length_take, Array.length_toList, hs]; exact Nat.min_eq_left (Nat.mul_le_mul_right _ hm), .inr ⟨g, cap, cur, rfl, hb, hg, hm, hc, hs, hx⟩⟩
theorem Own.take {α : Type} {c : α → List Value} {L : List α} (h : Own w base e size a m cap (L.flatMap c)) (hl : L.length = m) (hc : ∀ x, (c x).length = size) (i : Nat) (hi : i ≤ m) (ha : a = none → i = 0) :
    Own w base e size a i cap ((L.take i).flatMap c) := by
  have hf : ∀ (L : List α) (i : Nat), (L.flatMap c).take (i * size) = (L.take i).flatMap c := by
    intro L
    induction L with
    | nil => intro i; simp
    | cons x L ih =>
      intro i
      cases i with
      | zero => simp
      | succ i =>
        rw [List.flatMap_cons, List.take_succ_cons, List.flatMap_cons, List.take_append, hc x, show (i + 1) * size - size = i * size by rw [Nat.succ_mul]; omega, ih, List.take_of_length_le (by rw [hc x, Nat.succ_mul]; omega)]
  rcases h.form with ⟨rfl, hm, hc0⟩ | ⟨g, rfl, _, _⟩
  · obtain rfl := ha rfl
    subst hc0
    simpa using Own.nil w base e size
  · obtain ⟨cur, h2, h3, h4, h5, h6, h7⟩ := h.cur
    refine Own.of_cur h3 h2 (by omega) h5 h6 ?_
    rw [← hf L i, ← h7, List.take_take, Nat.min_eq_left (Nat.mul_le_mul_right _ hi)]
end
/-- copy into a row of the call's own -/
theorem fl_len {α : Type} {c : α → List Value} {size : Nat} (hc : ∀ x, (c x).length = size) : ∀ L : List α, (L.flatMap c).length = L.length * size
  | [] => by simp
  | x :: L => by rw [List.flatMap_cons, List.length_append, hc x, fl_len hc L, List.length_cons, Nat.succ_mul]; omega
theorem fl_take {α : Type} {c : α → List Value} {size : Nat} (hc : ∀ x, (c x).length = size) : ∀ (L : List α) (i : Nat), (L.flatMap c).take (i * size) = (L.take i).flatMap c
  | [], i => by simp
  | x :: L, 0 => by simp
  | x :: L, i + 1 => by
    rw [List.flatMap_cons, List.take_succ_cons, List.flatMap_cons, List.take_append, hc x, show (i + 1) * size - size = i * size by rw [Nat.succ_mul]; omega, fl_take hc L i, List.take_of_length_le (by rw [hc x, Nat.succ_mul]; omega)]
theorem fl_drop {α : Type} {c : α → List Value} {size : Nat} (hc : ∀ x, (c x).length = size) : ∀ (L : List α) (i : Nat), (L.flatMap c).drop (i * size) = (L.drop i).flatMap c
  | [], i => by simp
  | x :: L, 0 => by simp
  | x :: L, i + 1 => by
    rw [List.flatMap_cons, List.drop_succ_cons, List.drop_append, hc x, show (i + 1) * size - size = i * size by rw [Nat.succ_mul]; omega, fl_drop hc L i, List.drop_of_length_le (by rw [hc x, Nat.succ_mul]; omega), List.nil_append]
theorem fl_get {α : Type} {c : α → List Value} {size : Nat} (hc : ∀ x, (c x).length = size) (L : List α) (d : α) {i r : Nat} (hi : i < L.length) (hr : r < size) : (L.flatMap c)[i * size + r]? = (c (L.getD i d))[r]? := by
  rw [← List.getElem?_drop, fl_drop hc, List.drop_eq_getElem_cons hi, List.flatMap_cons, List.getElem?_append_left (by rw [hc]; exact hr)]
  congr 2
  simp [hi]
/-- the cells of a row of elements, one behind the other -/
theorem RowE.flat {α : Type} {c : α → List Value} {size sl m b off : Nat} {L2 : List α} {d : α} (h : RowE w (some ⟨b, off, none⟩) sl size (fun j => c (L2.getD j d))) (hc : ∀ x, (c x).length = size) (hl : L2.length = sl) (hm : m ≤ sl) :
    ∀ j v, ((L2.take m).flatMap c)[j]? = some v → w.cell? ((⟨b, off, none⟩ : Addr).add j) = some v := by
  intro j v hj
  have hcs : ((L2.take m).flatMap c).length = m * size := by rw [fl_len hc, List.length_take, Nat.min_eq_left (by omega)]
  have hjl : j < m * size := by rw [← hcs]; exact (List.getElem?_eq_some_iff.1 hj).1
  have hsz : 0 < size := by
    rcases Nat.eq_zero_or_pos size with h8 | h8
    · subst h8; simp at hjl
    · exact h8
  have hi : j / size < m := Nat.div_lt_of_lt_mul (by rw [Nat.mul_comm]; exact hjl)
  have hjr : j / size * size + j % size = j := by rw [Nat.mul_comm]; exact Nat.div_add_mod j size
  rw [Addr.add_off, ← hjr, ← Nat.add_assoc]
  refine h.ld (j / size) (by omega) (j % size) v ?_
  rw [← hj, ← fl_take hc, List.getElem?_take_of_lt hjl]
  have := fl_get hc L2 d (i := j / size) (r := j % size) (by omega) (Nat.mod_lt _ hsz)
  rw [hjr] at this
  exact this.symm
end K
end Go.Proofs.YtnehocjmgnhhhaaDoor
