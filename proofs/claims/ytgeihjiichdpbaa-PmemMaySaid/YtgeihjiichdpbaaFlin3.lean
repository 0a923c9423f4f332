/- Lines: reading back what was written; the reference of words. -/
import Derived.Test.YtgeihjiichdpbaaFlin2
namespace Go.Proofs.Ytgeihjiichdpbaa
open Go.RowKit
set_option linter.unusedVariables false
attribute [local irreducible] K.KW K.RW K.DW K.OW K.QR K.KC

theorem wordLE_bytesT {w : Int} (hw : 0 ≤ w) (n : Nat) : wordLE (bytesT w n) = w % 2 ^ (8 * n) := by
  induction n with
  | zero => simp [bytesT, wordLE, Int.emod_one]
  | succ n ih =>
    rw [bytesT_succ, wordLE_snoc, ih, bytesT_len]
    obtain ⟨W, rfl⟩ : ∃ W : Nat, w = W := ⟨w.toNat, by omega⟩
    unfold byteAt
    have h := Nat.mod_mul (x := W) (a := 2 ^ (8 * n)) (b := 256)
    have e : (2 : Nat) ^ (8 * (n + 1)) = 2 ^ (8 * n) * 256 := by rw [show 8 * (n + 1) = 8 * n + 8 by omega, Nat.pow_add]
    have h2 : ((W % 2 ^ (8 * (n + 1)) : Nat) : Int) = ((W % 2 ^ (8 * n) + 2 ^ (8 * n) * (W / 2 ^ (8 * n) % 256) : Nat) : Int) := by rw [e, h]
    rw [Int.mul_comm]
    simpa using h2.symm
theorem wordLE_back {w : Int} (hw : 0 ≤ w ∧ w ≤ 18446744073709551615) : wordLE (bytesT w 8) = w := by
  rw [wordLE_bytesT hw.1]
  exact Int.emod_eq_of_lt hw.1 (by have : (2 : Int) ^ (8 * 8) = 18446744073709551616 := by decide
                                   omega)
theorem byteAt_cons {b v : Int} (hb : 0 ≤ b ∧ b ≤ 255) (i : Nat) : byteAt (b + 256 * v) (i + 1) = byteAt v i := by
  unfold byteAt
  rw [show 8 * (i + 1) = 8 + 8 * i by omega, Int.pow_add, ← Int.ediv_ediv_of_nonneg (by decide), show (b + 256 * v) / 2 ^ 8 = v by show (b + 256 * v) / 256 = v; omega]
theorem bytesT_back : ∀ {bs : List Int}, allBytes bs → bytesT (wordLE bs) bs.length = bs
  | [], _ => by simp [bytesT]
  | b :: bs, h => by
    have hb : 0 ≤ b ∧ b ≤ 255 := h b (by simp)
    have ih := bytesT_back (bs := bs) (fun x hx => h x (by simp [hx]))
    unfold bytesT at ih ⊢
    rw [List.length_cons, List.range_succ_eq_map, List.map_cons, List.map_map]
    congr 1
    · show byteAt (b + 256 * wordLE bs) 0 = b
      unfold byteAt; simp; omega
    · refine (List.map_congr_left (fun i _ => ?_)).trans ih
      exact byteAt_cons hb i
theorem drop8 {a r : List Int} {i : Nat} (h : a.length = 8) : (a ++ r).drop (8 * (i + 1)) = r.drop (8 * i) := by
  rw [show 8 * (i + 1) = a.length + 8 * i by omega, List.drop_append, List.drop_of_length_le (by omega), Nat.add_sub_cancel_left]; rfl
theorem wordNo_bytesL : ∀ {ws : List Int} {i : Nat}, allWords ws → i < ws.length → wordNo (bytesL ws) i = ws.getD i 0
  | [], _, _, h => by simp at h
  | w :: ws, 0, hw, _ => by
    unfold wordNo bytesL
    rw [List.flatMap_cons, Nat.mul_zero, List.drop_zero, List.take_append_of_le_length (by rw [bytesT_len]; omega), List.take_of_length_le (by rw [bytesT_len]; omega), wordLE_back (hw w (by simp))]
    rfl
  | w :: ws, i + 1, hw, h => by
    have ih := wordNo_bytesL (ws := ws) (i := i) (fun x hx => hw x (by simp [hx])) (by simp at h; omega)
    unfold wordNo bytesL at ih ⊢
    rw [List.flatMap_cons, drop8 (bytesT_len w 8), ih]
    simp
theorem words_back {ws : List Int} (hw : allWords ws) : wordsT (bytesL ws) ws.length = ws := by
  apply List.ext_getElem (wordsT_len _ _)
  intro i h1 h2
  have := wordNo_bytesL hw h2
  simp [wordsT, this, h2]
theorem bytes_back {bs : List Int} (hb : allBytes bs) : ∀ {k : Nat}, 8 * k ≤ bs.length → bytesL (wordsT bs k) = bs.take (8 * k)
  | 0, _ => by simp [wordsT, bytesL]
  | k + 1, h => by
    have hl : ((bs.drop (8 * k)).take 8).length = 8 := by rw [List.length_take, List.length_drop]; omega
    have h2 := bytesT_back (bs := (bs.drop (8 * k)).take 8) (allBytes_sub hb fun x hx => mem_drop x (mem_take x hx))
    rw [hl] at h2
    rw [wordsT_succ, bytesL_snoc, bytes_back hb (k := k) (by omega)]
    unfold wordNo
    rw [h2, show 8 * (k + 1) = 8 * k + 8 by omega, List.take_add]
theorem wordsT_add (bs : List Int) (a b : Nat) : wordsT bs (a + b) = wordsT bs a ++ wordsT (bs.drop (8 * a)) b := by
  unfold wordsT
  rw [List.range_add, List.map_append, List.map_map]
  congr 1
  apply List.map_congr_left
  intro i _
  show wordNo bs (a + i) = wordNo (bs.drop (8 * a)) i
  unfold wordNo
  rw [List.drop_drop, Nat.mul_add]
theorem wordsT_take (bs : List Int) : wordsT (bs.take 64) 8 = wordsT bs 8 := by
  unfold wordsT
  apply List.map_congr_left
  intro i hi
  have : i < 8 := List.mem_range.1 hi
  unfold wordNo
  rw [List.drop_take, List.take_take, show min 8 (64 - 8 * i) = 8 by omega]
theorem flat_img (bs : List Int) : ∀ k : Nat, flatL (imgT bs k) = wordsT bs (8 * k)
  | 0 => rfl
  | k + 1 => by
    rw [imgT_succ, flatL_snoc, flat_img bs k, ln8_of (wordsT_len _ _), wordsT_take, show 8 * (k + 1) = 8 * k + 8 by omega, wordsT_add, show k * 64 = 8 * (8 * k) by omega]
theorem flat_cut (ws : List Int) : ∀ {k : Nat}, 8 * k ≤ ws.length → flatL (cutT ws k) = ws.take (8 * k)
  | 0, _ => by simp [cutT, flatL]
  | k + 1, h => by
    rw [cutT_succ, flatL_snoc, flat_cut ws (k := k) (by omega), ln8_of (by rw [List.length_take, List.length_drop]; omega), show 8 * (k + 1) = 8 * k + 8 by omega, List.take_add, Nat.mul_comm k 8]
theorem flat_words {ls : List (List Int)} (h : allLines ls) : allWords (flatL ls) := by
  intro x hx
  obtain ⟨l, hl, hx⟩ := List.mem_flatMap.1 hx
  have hw := h l hl
  unfold ln8 at hx
  simp only [List.mem_cons, List.not_mem_nil, or_false] at hx
  rcases hx with rfl | rfl | rfl | rfl | rfl | rfl | rfl | rfl <;> exact getD_word hw _
theorem wordNo_bd {bs : List Int} (hb : allBytes bs) (i : Nat) : 0 ≤ wordNo bs i ∧ wordNo bs i ≤ 18446744073709551615 := by
  have h := wordLE_bd (xs := (bs.drop (8 * i)).take 8) (allBytes_sub hb fun x hx => mem_drop x (mem_take x hx))
  have hl : ((bs.drop (8 * i)).take 8).length ≤ 8 := by rw [List.length_take]; omega
  have hp := pow_mono (i := 8 * ((bs.drop (8 * i)).take 8).length) (j := 64) (by omega)
  have : (2 : Int) ^ 64 = 18446744073709551616 := by decide
  unfold wordNo
  omega
theorem words_words {bs : List Int} (hb : allBytes bs) (k : Nat) : allWords (wordsT bs k) := by
  intro x hx
  obtain ⟨i, _, rfl⟩ := List.mem_map.1 hx
  exact wordNo_bd hb i
theorem img_lines {bs : List Int} (hb : allBytes bs) (k : Nat) : allLines (imgT bs k) := by
  intro l hl
  obtain ⟨i, _, rfl⟩ := List.mem_map.1 hl
  exact words_words (allBytes_sub hb fun x hx => mem_drop x (mem_take x hx)) 8
/-- a step of the reference's sum, from the last byte down -/
theorem horner {bs : List Int} {i : Nat} (hl : i < bs.length) : wordLE (bs.drop (bs.length - (i + 1))) = 256 * wordLE (bs.drop (bs.length - i)) + bs.getD (bs.length - (i + 1)) 0 := by
  rw [List.drop_eq_getElem_cons (by omega), show bs.length - (i + 1) + 1 = bs.length - i by omega]
  show _ + 256 * _ = _
  rw [Int.add_comm]
  congr 1
  simp [show bs.length - (i + 1) < bs.length by omega]
/-- the last i of the 8 bytes at a place -/
def hornW (bs : List Int) (j i : Nat) : Int := wordLE (((bs.drop (8 * j)).take 8).drop (8 - i))
theorem hornW_0 (bs : List Int) (j : Nat) : hornW bs j 0 = 0 := by
  unfold hornW
  rw [List.drop_of_length_le (by rw [List.length_take]; omega)]
  rfl
theorem hornW_8 (bs : List Int) (j : Nat) : hornW bs j 8 = wordNo bs j := rfl
theorem hornW_succ {bs : List Int} {j i : Nat} (h : 8 * j + 8 ≤ bs.length) (hi : i < 8) : 256 * hornW bs j i + bs.getD (8 * j + (7 - i)) 0 = hornW bs j (i + 1) := by
  have hl : ((bs.drop (8 * j)).take 8).length = 8 := by rw [List.length_take, List.length_drop]; omega
  have h2 := horner (bs := (bs.drop (8 * j)).take 8) (i := i) (by omega)
  rw [hl] at h2
  unfold hornW
  rw [h2]
  congr 1
  rw [List.getD_eq_getElem?_getD, List.getD_eq_getElem?_getD, List.getElem?_take_of_lt (by omega), List.getElem?_drop, show 8 - (i + 1) = 7 - i by omega]
theorem hornW_bd {bs : List Int} (hb : allBytes bs) (j : Nat) {i : Nat} (hi : i ≤ 8) : 0 ≤ hornW bs j i ∧ hornW bs j i < 2 ^ (8 * i) := by
  have h := wordLE_bd (xs := ((bs.drop (8 * j)).take 8).drop (8 - i)) (allBytes_sub hb fun x hx => mem_drop x (mem_take x (mem_drop x hx)))
  have hp := pow_mono (i := 8 * (((bs.drop (8 * j)).take 8).drop (8 - i)).length) (j := 8 * i) (by rw [List.length_drop, List.length_take]; omega)
  unfold hornW
  omega
theorem hornW_lt {bs : List Int} (hb : allBytes bs) (j : Nat) {i : Nat} (hi : i ≤ 7) : 0 ≤ hornW bs j i ∧ hornW bs j i < 72057594037927936 := by
  have h := hornW_bd hb j (i := i) (by omega)
  have hp := pow_mono (i := 8 * i) (j := 56) (by omega)
  have : (2 : Int) ^ 56 = 72057594037927936 := by decide
  omega

theorem allWords_lit {ws : List Int} (h : (ws.all fun x => decide (0 ≤ x ∧ x ≤ 18446744073709551615)) = true) : allWords ws := fun x hx => by have := List.all_eq_true.1 h x hx; exact of_decide_eq_true (p := 0 ≤ x ∧ x ≤ 18446744073709551615) this
theorem allLines_lit {ls : List (List Int)} (h : (ls.all fun ws => ws.all fun x => decide (0 ≤ x ∧ x ≤ 18446744073709551615)) = true) : allLines ls := fun l hl => allWords_lit (List.all_eq_true.1 h l hl)
theorem wordsL_take {bs : List Int} {k : Nat} (h1 : ¬ 8 * k + 8 ≤ bs.length) (h2 : 8 * k ≤ bs.length) : wordsT bs k = wordsL bs := by
  unfold wordsL; rw [show k = bs.length / 8 by omega]

end Go.Proofs.Ytgeihjiichdpbaa
