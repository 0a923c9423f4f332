import Derived.Test.YtnehocjmgnhhhaaKm
import Derived.Deep.Slices
import Derived.Deep.Fields
import Derived.ChangeSame
import Derived.OpenShut
/- A slice that came in as an argument, opened to a row of values of one element kind. -/
namespace Go.Proofs.Ytnehocjmgnhhhaa
open Go.RowKit Go.ChangeShapes Go.WideShapes Go.Deep
set_option linter.unusedVariables false
namespace K
section
variable {H : Type} {enc : TypeId × Value → H} {P : Program} {w : World} {base : Nat} {spare : Nat → Bool} {held : Bool}
theorem choose_list {α : Type} (d : α) {m : Nat} {p : Nat → α → Prop} (h : ∀ i, i < m → ∃ y, p i y) : ∃ l : List α, l.length = m ∧ ∀ i, i < m → p i (l.getD i d) := by
  induction m with
  | zero => exact ⟨[], rfl, fun i h => by omega⟩
  | succ m ih =>
    obtain ⟨l, hl, hp⟩ := ih fun i hi => h i (by omega)
    obtain ⟨y, hy⟩ := h m (by omega)
    refine ⟨l ++ [y], by rw [List.length_append, hl]; rfl, fun i hi => ?_⟩
    by_cases hm : i < m
    · rw [List.getD_eq_getElem?_getD, List.getElem?_append_left (by omega), ← List.getD_eq_getElem?_getD]; exact hp i hm
    · obtain rfl : i = m := by omega
      rw [List.getD_eq_getElem?_getD, List.getElem?_append_right (by omega), hl, Nat.sub_self]
      exact hy
/-- a cell at a place with a spot is none -/
theorem spot_none {a : Addr} {v : Value} (h : w.cell? (a.add 0) = some v) : a.spot = none := by
  unfold Addr.add at h
  rw [if_pos rfl] at h
  unfold World.cell? at h
  split at h
  · cases hx : a.spot with
    | none => rfl
    | some _ => simp [hx] at h
  · cases h
theorem row_of_trod {α : Type} (c : α → List Value) (d : α) (good : α → Prop) {size : Nat} {t e : TypeId} {a : Option Addr} {len cap : Nat} {D : DataW H} {p : List MemPlace} (ht : P.underlying t = some (.slice e)) (hC : P.cellsOf e = size) (h0 : 0 < size)
    (hdec : ∀ (cs : List Value) n x, DataW.trod enc P w base spare held n e cs = some x → ∃ y, cs = c y ∧ good y) (h : DataW.Trod enc P w base spare held t (.slice a len cap) D p) :
    ∃ l : List α, l.length = len ∧ RowE w a len size (fun i => c (l.getD i d)) ∧ (∀ i, i < len → good (l.getD i d)) ∧ len ≤ 9223372036854775807 ∧ len ≤ cap := by
  obtain ⟨fuel, hf⟩ := h
  rcases open_slice ht hf with ⟨hcs, _⟩ | ⟨b, l, cp, m, n, Dd, Pl, hcs, hb, hl, hm, hmm, _, hi⟩
  · simp [Value.cells] at hcs
    obtain ⟨rfl, rfl, rfl⟩ := hcs
    exact ⟨[], rfl, .inl rfl, fun i h => by omega, by omega, by omega⟩
  · simp [Value.cells] at hcs
    obtain ⟨rfl, rfl, rfl⟩ := hcs
    have hlm : len ≤ m := by rw [hmm]; split <;> omega
    obtain ⟨L, hL, hp⟩ := choose_list d (m := len) (p := fun i y => (w.cells? base (b.add (i * P.cellsOf e)) (P.cellsOf e) = some (c y)) ∧ good y) fun i hi' => by
      obtain ⟨cs', h1, h2⟩ := hi i (by omega)
      obtain ⟨y, rfl, hg⟩ := hdec cs' _ _ h2
      exact ⟨y, h1, hg⟩
    refine ⟨L, hL, ?_, fun i h => (hp i h).2, by unfold maxLen at hm; omega, hl⟩
    by_cases hz : len = 0
    · exact .inl hz
    · have hcell : ∀ i, i < len → (c (L.getD i d)).length = size ∧ ∀ j, j < size → w.cell? ((b.add (i * size)).add j) = (c (L.getD i d))[j]? := fun i h => by
        have := World.cells?_some (hp i h).1
        rw [hC] at this
        exact this.2
      obtain ⟨hl0, hc0⟩ := hcell 0 (by omega)
      have hs : b.spot = none := by
        have h1 := hc0 0 h0
        rw [List.getElem?_eq_getElem (by omega), Nat.zero_mul, Go.Deep.add_add] at h1
        exact spot_none h1
      obtain ⟨bb, off, sp⟩ := b
      simp only at hs
      subst hs
      refine .inr ⟨bb, off, rfl, fun i h j v hv => ?_⟩
      obtain ⟨hl1, hc1⟩ := hcell i h
      have hj : j < size := by rw [← hl1]; exact (List.getElem?_eq_some_iff.1 hv).1
      have := hc1 j hj
      rw [Go.Deep.add_add, K.Addr.add_off] at this
      rw [← hv, ← this, Nat.add_assoc]
theorem dec_int {k : IntKind} {t : TypeId} (ht : P.underlying t = some (.int k)) (c : Int → List Value) (hc : ∀ x, c x = [.int k x]) (cs : List Value) (n : Nat) (x : DataW H × List MemPlace) (h : DataW.trod enc P w base spare held n t cs = some x) :
    ∃ y, cs = c y ∧ (Lit.int k y).wf = true := by
  obtain ⟨y, h1, _, h2⟩ := DataW.trod_int ht h
  exact ⟨y, by rw [hc]; exact h1, h2⟩
/-- a part of a struct or an array that is an integer -/
theorem part_int {k : IntKind} {t : TypeId} {cs : List Value} {off n i : Nat} {ys : List (DataW H × List MemPlace)} (ht : P.underlying t = some (.int k)) (hC : P.cellsOf t = 1) (h : DataW.trod enc P w base spare held n t ((cs.drop off).take (P.cellsOf t)) = ys[i]?) (hi : i < ys.length) :
    ∃ y, cs[off]? = some (.int k y) ∧ (Lit.int k y).wf = true := by
  rw [List.getElem?_eq_getElem hi, hC] at h
  obtain ⟨y, h1, _, h2⟩ := DataW.trod_int ht h
  refine ⟨y, ?_, h2⟩
  have := congrArg (fun l => l[0]?) h1
  simpa [List.getElem?_take, List.getElem?_drop] using this
end
end K
end Go.Proofs.Ytnehocjmgnhhhaa

/- Arguments that are structs or arrays by value, opened. -/
namespace Go.Proofs.Ytnehocjmgnhhhaa
open Go.RowKit Go.ChangeShapes Go.WideShapes Go.Deep
set_option linter.unusedVariables false
namespace K
section
variable {H : Type} {enc : TypeId × Value → H} {P : Program} {w : World} {base : Nat} {spare : Nat → Bool} {held : Bool}
/-- a part of a struct or an array that is a bool -/
theorem part_bool {t : TypeId} {cs : List Value} {off n i : Nat} {ys : List (DataW H × List MemPlace)} (ht : P.underlying t = some .bool) (hC : P.cellsOf t = 1) (h : DataW.trod enc P w base spare held n t ((cs.drop off).take (P.cellsOf t)) = ys[i]?) (hi : i < ys.length) :
    ∃ y, cs[off]? = some (.bool y) ∧ True := by
  rw [List.getElem?_eq_getElem hi, hC] at h
  obtain ⟨y, h1, _⟩ := DataW.trod_bool ht h
  refine ⟨y, ?_, trivial⟩
  have := congrArg (fun l => l[0]?) h1
  simpa [List.getElem?_take, List.getElem?_drop] using this
/-- a part of a part -/
theorem part_sub {cs : List Value} {off size j : Nat} {v : Value} (h : ((cs.drop off).take size)[j]? = some v) : cs[off + j]? = some v := by
  rw [List.getElem?_take] at h
  split at h
  · rwa [List.getElem?_drop] at h
  · cases h
end
end K
end Go.Proofs.Ytnehocjmgnhhhaa
