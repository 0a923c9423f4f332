import Derived.Test.YtbfafebfkdbglaaGreatFl9c
/- The statements of layer 4. -/
namespace Go.Proofs.YtbfafebfkdbglaaGreat
open Go.RowKit
set_option linter.unusedVariables false
attribute [local irreducible] K.KW K.RW K.DW K.OW K.QR K.KC
theorem foldl_back_seen : ∀ (l : List Int) (D : DevM), (l.foldl (fun D x => D.back x.toNat) D).seen = D.seen
 | [], _ => rfl
 | x :: l, D => foldl_back_seen l (D.back x.toNat)
theorem DevM.fence_seen (D : DevM) (t : Nat) : (D.fence t).seen = D.seen := foldl_back_seen _ _
/-- the words of a line -/
def lineT (W : List Int) (q : Nat) : List Int := (W.drop (8 * q)).take 8
theorem copyL_get {Kp S : List Int} {k n : Nat} (hK : Kp.length = n * 8) (hS : S.length = n * 8) (hk : k < n) (m : Nat) : (copyL Kp S k)[m]? = if k * 8 ≤ m ∧ m < k * 8 + 8 then S[m]? else Kp[m]? := by
 unfold copyL
 have l1 : (Kp.take (k * 8)).length = k * 8 := by rw [List.length_take]; omega
 have l2 : ((S.drop (k * 8)).take 8).length = 8 := by rw [List.length_take, List.length_drop]; omega
 by_cases h1 : m < k * 8
 ·rw [if_neg (by omega), List.append_assoc, List.getElem?_append_left (by omega), List.getElem?_take, if_pos h1]
 ·rw [List.append_assoc, List.getElem?_append_right (by omega), l1]
  by_cases h2 : m < k * 8 + 8
  ·rw [if_pos (by omega), List.getElem?_append_left (by omega), List.getElem?_take, if_pos (by omega), List.getElem?_drop]
   congr 1; omega
  ·rw [if_neg (by omega), List.getElem?_append_right (by omega), l2, List.getElem?_drop]
   congr 1; omega
theorem copyL_line {Kp S : List Int} {k q n : Nat} (hK : Kp.length = n * 8) (hS : S.length = n * 8) (hk : k < n) (hq : q < n) : lineT (copyL Kp S k) q = if q = k then lineT S q else lineT Kp q := by
 apply List.ext_getElem?
 intro i
 by_cases hi : i < 8
 ·split
  ·rename_i h
   simp only [lineT, List.getElem?_take, List.getElem?_drop, if_pos hi]
   rw [copyL_get hK hS hk, if_pos (by omega)]
  ·rename_i h
   simp only [lineT, List.getElem?_take, List.getElem?_drop, if_pos hi]
   rw [copyL_get hK hS hk, if_neg (by omega)]
 ·split <;> simp only [lineT, List.getElem?_take, if_neg hi]
theorem foldl_back_line {n t : Nat} {q : Nat} (hq : q < n) : ∀ (l : List Int) (D : DevM), D.ok n t → (∀ x ∈ l, 0 ≤ x ∧ x < n) →
  lineT (l.foldl (fun D x => D.back x.toNat) D).kept q = if (q : Int) ∈ l then lineT D.seen q else lineT D.kept q
 | [], D, _, _ => by simp
 | x :: l, D, hD, hl => by
  have hx := hl x (by simp)
  have ih := foldl_back_line hq l (D.back x.toNat) (hD.back (by omega)) (fun y hy => hl y (by simp [hy]))
  rw [List.foldl_cons, ih]
  have hc := copyL_line (k := x.toNat) hD.1 hD.2.1 (by omega) hq
  have hkb : (D.back x.toNat).kept = copyL D.kept D.seen x.toNat := rfl
  have hsb : (D.back x.toNat).seen = D.seen := rfl
  rw [hkb, hsb, hc]
  by_cases h1 : (q : Int) ∈ l
  ·rw [if_pos h1, if_pos (List.mem_cons_of_mem _ h1)]
  ·rw [if_neg h1]
   by_cases h2 : q = x.toNat
   ·rw [if_pos h2, if_pos (by rw [h2]; simp; omega)]
   ·rw [if_neg h2, if_neg (by simp [h1]; omega)]
theorem set_ok_get {D : DevM} {t : Nat} {B : List Bool} (h : t < D.flush.length) : (D.set t B).flush.getD t [] = B := by unfold DevM.set; simp [h]
theorem fence_line {D : DevM} {n t k q : Nat} (hD : D.ok n t) (hk : k < t) (hq : q < n) : lineT (D.fence k).kept q = if (D.flush.getD k []).getD q false = true then lineT D.seen q else lineT D.kept q := by
 have hB := hD.getB hk
 unfold DevM.fence
 rw [foldl_back_line hq _ (D.clear k) (hD.set (by rw [List.length_replicate]; exact hB)) (fun x hx => by have := trues_mem hx; omega)]
 have e : ((q : Int) ∈ trues (D.flush.getD k [])) ↔ (D.flush.getD k []).getD q false = true := by
  constructor
  ·intro h; have := (trues_mem h).2.2; simpa using this
  ·intro h; have := truesF_of (D.flush.getD k []) 0 q (by omega) h; rw [Nat.zero_add] at this; exact this
 simp only [e]; rfl
theorem DevM.ok.mark {D : DevM} {n t k q : Nat} (h : D.ok n t) (hk : k < t) : (D.mark k q).ok n t := h.set (by rw [List.length_set]; exact h.getB hk)
theorem DevM.ok.fence {D : DevM} {n t k : Nat} (h : D.ok n t) (hk : k < t) : (D.fence k).ok n t := by
 have hB := h.getB hk
 rw [fence_eq]
 exact DevM.ok.set (backsTo_ok h _ (by omega)) (by rw [List.length_replicate]; exact hB)
theorem RowsG.one {α : Type} {p : K.Cs → Value → α → Prop} {g : K.Cs} {v : Value} {B : α} (h : p g v B) : RowsG p g [v] [B] := ⟨[g], by simp, h, trivial⟩
end Go.Proofs.YtbfafebfkdbglaaGreat
