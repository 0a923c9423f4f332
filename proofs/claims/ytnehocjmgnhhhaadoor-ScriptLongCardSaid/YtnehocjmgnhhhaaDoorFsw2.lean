import Derived.Test.YtnehocjmgnhhhaaDoorFsw
/- Scripts: Write, plain. -/
namespace Go.Proofs.YtnehocjmgnhhhaaDoor
open Go.RowKit
set_option linter.unusedVariables false
attribute [local irreducible] K.KW K.RW K.DW K.OW K.QR K.KC
def allRt (L : List ActM) : Prop := ∀ q, q < L.length → rightO (L.getD q act0)
def allAf (L : List ActM) : Prop := ∀ q, (L.getD q act0).fits
instance (L : List ActM) : Decidable (allRt L) := inferInstanceAs (Decidable (∀ q, q < L.length → rightO (L.getD q act0)))
def kind25 (a : ActM) : Prop := a.k = 2 ∨ a.k = 5
instance (a : ActM) : Decidable (kind25 a) := inferInstanceAs (Decidable (_ ∨ _))
/-- n is how many acts, from the first one on, go to one line -/
def AlkP (L : List ActM) (n : Nat) : Prop := 1 ≤ n ∧ n ≤ L.length ∧ n ≤ 10000 ∧ (∀ q, q < n → L.getD q act0 = L.getD 0 act0) ∧ (kind25 (L.getD 0 act0) ∨ n = 1) ∧ (¬ kind25 (L.getD 0 act0) ∨ n = L.length ∨ n = 10000 ∨ ¬ L.getD n act0 = L.getD 0 act0)
def alkF (L : List ActM) : Nat → Nat → Nat
  | 0, n => n
  | f + 1, n => if n < L.length ∧ n < 10000 ∧ L.getD n act0 = L.getD 0 act0 then alkF L f (n + 1) else n
def alk (L : List ActM) : Nat := if kind25 (L.getD 0 act0) then alkF L L.length 1 else 1
theorem alkF_P {L : List ActM} (hk : kind25 (L.getD 0 act0)) : ∀ (f n : Nat), 1 ≤ n → n ≤ L.length → n ≤ 10000 → (∀ q, q < n → L.getD q act0 = L.getD 0 act0) → L.length ≤ n + f → AlkP L (alkF L f n)
  | 0, n, h1, h2, h3, h4, h5 => ⟨h1, h2, h3, h4, .inl hk, .inr (.inl (by show n = _; omega))⟩
  | f + 1, n, h1, h2, h3, h4, h5 => by
    unfold alkF
    split
    · rename_i h
      exact alkF_P hk f (n + 1) (by omega) (by omega) (by omega) (K.all_snoc h4 h.2.2) (by omega)
    · rename_i h
      refine ⟨h1, h2, h3, h4, .inl hk, .inr ?_⟩
      by_cases ha : n < L.length
      · by_cases hb : n < 10000
        · exact .inr (.inr fun e => h ⟨ha, hb, e⟩)
        · exact .inr (.inl (by omega))
      · exact .inl (by omega)
theorem alk_P {L : List ActM} (h : 0 < L.length) : AlkP L (alk L) := by
  unfold alk
  split
  · rename_i hk
    exact alkF_P hk _ 1 (by omega) (by omega) (by omega) (fun q hq => by rw [show q = 0 by omega]) (by omega)
  · rename_i hk
    exact ⟨by omega, by omega, by omega, fun q hq => by rw [show q = 0 by omega], .inr rfl, .inl hk⟩
theorem alk_lt {L : List ActM} {n m : Nat} (h : AlkP L n) (h' : AlkP L m) : ¬ n < m := fun hlt => by
  obtain ⟨a1, a2, a3, a4, a5, a6⟩ := h
  obtain ⟨b1, b2, b3, b4, b5, b6⟩ := h'
  have hk : kind25 (L.getD 0 act0) := by
    rcases b5 with h | h
    · exact h
    · omega
  rcases a6 with h | h | h | h
  · exact h hk
  · omega
  · omega
  · exact h (b4 n hlt)
theorem alk_uniq {L : List ActM} {n : Nat} (h : AlkP L n) : n = alk L := by
  have h2 := alk_P (L := L) (by have := h.1; have := h.2.1; omega)
  have := alk_lt h h2; have := alk_lt h2 h; omega
theorem getD_drop {α : Type} {L : List α} {n q : Nat} {d : α} : (L.drop n).getD q d = L.getD (n + q) d := by
  rw [List.getD_eq_getElem?_getD, List.getElem?_drop, ← List.getD_eq_getElem?_getD]
def rowA (a : ActM) (n : Nat) : List UInt8 := K.jn 32 (wordsA a n) ++ [10]
def wrG : Nat → List ActM → List UInt8
  | 0, _ => []
  | f + 1, L => if L = [] then [] else rowA (L.getD 0 act0) (alk L) ++ wrG f (L.drop (alk L))
/-- the text of acts -/
def wrM (L : List ActM) : List UInt8 := wrG L.length L
theorem wrG_fuel : ∀ (f g : Nat) (L : List ActM), L.length ≤ f → L.length ≤ g → wrG f L = wrG g L
  | 0, 0, _, _, _ => rfl
  | 0, g + 1, L, h, _ => by
    have : L = [] := List.eq_nil_of_length_eq_zero (by omega)
    unfold wrG; rw [if_pos this]
  | f + 1, 0, L, _, h => by
    have : L = [] := List.eq_nil_of_length_eq_zero (by omega)
    unfold wrG; rw [if_pos this]
  | f + 1, g + 1, L, hf, hg => by
    unfold wrG
    by_cases hL : L = []
    · rw [if_pos hL, if_pos hL]
    · have h1 := (alk_P (L := L) (List.length_pos_iff.2 hL)).1
      have h0 := List.length_pos_iff.2 hL
      rw [if_neg hL, if_neg hL, wrG_fuel f g _ (by rw [List.length_drop]; omega) (by rw [List.length_drop]; omega)]
theorem wrM_nil : wrM [] = [] := rfl
theorem wrM_step {L : List ActM} (h : 0 < L.length) : wrM L = rowA (L.getD 0 act0) (alk L) ++ wrM (L.drop (alk L)) := by
  have h1 := (alk_P h).1
  unfold wrM
  obtain ⟨m, hm⟩ : ∃ m, L.length = m + 1 := ⟨L.length - 1, by omega⟩
  conv => lhs; rw [hm]; unfold wrG
  rw [if_neg (by intro e; rw [e] at h; simp at h), wrG_fuel m _ _ (by rw [List.length_drop]; omega) (Nat.le_refl _)]
theorem wr_next {L Lk : List ActM} {o : List UInt8} (h : o ++ wrM Lk = wrM L) (h0 : 0 < Lk.length) : (o ++ (K.jn 32 (wordsA (Lk.getD 0 act0) (alk Lk)) ++ [10])) ++ wrM (Lk.drop (alk Lk)) = wrM L := by
  rw [← h, wrM_step h0]; unfold rowA; simp
theorem wordsA_sum {a : ActM} {n : Nat} (hr : rightO a) (hf : a.fits) (hn : n ≤ 10000) : (K.jn 32 (wordsA a n)).length ≤ 105 ∧ 0 < (wordsA a n).length ∧ (wordsA a n).length ≤ 5 := by
  unfold rightO at hr
  unfold ActM.fits isI64 at hf
  have hj := K.jn_len 32 (wordsA a n)
  have q1 := dg_len20 (n := a.th.toNat) (by omega)
  have q2 := opNm_len ((a.ok - 1).toNat + 1)
  have e2 : opNm.getD ((a.ok - 1).toNat + 1) [] = opNm.tail.getD (a.ok - 1).toNat [] := rfl
  rw [e2] at q2
  have q3 := dg_len20 (n := a.key.toNat) (by omega)
  have q4 := dg_len20 (n := a.val.toNat) (by omega)
  have q5 := dg_len20 (n := n) (by omega)
  have q6 := dg_len20 (n := a.ln.toNat) (by omega)
  unfold wordsA keyA valA at hj ⊢
  (repeat' split at hj) <;> (repeat' split) <;> simp_all [callN, stepN, evictN, reviveN, crashN] <;> omega
end Go.Proofs.YtnehocjmgnhhhaaDoor
