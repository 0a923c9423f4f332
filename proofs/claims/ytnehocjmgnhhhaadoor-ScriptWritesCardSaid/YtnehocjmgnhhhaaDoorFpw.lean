import Derived.Test.YtnehocjmgnhhhaaDoorFsc4
import Derived.Test.YtnehocjmgnhhhaaDoorFsw4
import Derived.Test.YtnehocjmgnhhhaaDoorFrt
/- Scripts: what was written is read so. -/
namespace Go.Proofs.YtnehocjmgnhhhaaDoor
open Go.RowKit
set_option linter.unusedVariables false
attribute [local irreducible] K.KW K.RW K.DW K.OW K.QR K.KC
theorem numW_dg {n : Nat} {a b : Int} (h1 : a ≤ (n : Int)) (h2 : (n : Int) ≤ b) (h : n < 10000000000) : numW (dg n) a b = ((n : Int), 0) := by
  have hl := dg_len 9 n (by omega)
  rw [numW_ok (by
    rintro (h | h | h)
    · have := dg_pos n; rw [h] at this; simp at this
    · exact dg_lead n h
    · exact h (dgD n)) (by rw [valdg]; omega), valdg]
theorem nums1 {x : List UInt8} {b : Int × Int} {v : Int} (h : numW x b.1 b.2 = (v, 0)) : numsE [x] [b] = 0 ∧ numsV [x] [b] = [v] := by
  simp [numsE, numsG, numE1, numsV, numV1, h, List.range_succ]
theorem nums2 {x y : List UInt8} {b c : Int × Int} {v u : Int} (h : numW x b.1 b.2 = (v, 0)) (h2 : numW y c.1 c.2 = (u, 0)) : numsE [x, y] [b, c] = 0 ∧ numsV [x, y] [b, c] = [v, u] := by
  simp [numsE, numsG, numE1, numsV, numV1, h, h2, List.range_succ]
theorem nums3 {x y z : List UInt8} {b c d : Int × Int} {v u t : Int} (h : numW x b.1 b.2 = (v, 0)) (h2 : numW y c.1 c.2 = (u, 0)) (h3 : numW z d.1 d.2 = (t, 0)) : numsE [x, y, z] [b, c, d] = 0 ∧ numsV [x, y, z] [b, c, d] = [v, u, t] := by
  simp [numsE, numsG, numE1, numsV, numV1, h, h2, h3, List.range_succ]
theorem kindW_cons {x y : List UInt8} {r : List (List UInt8)} : kindW (x :: y :: r) = K.ixS y opNm.tail + 1 := rfl
theorem kind_at {k : Int} (h : 1 ≤ k ∧ k ≤ 8) : K.ixS (opNm.tail.getD (k - 1).toNat []) opNm.tail + 1 = k := by
  have : k = 1 ∨ k = 2 ∨ k = 3 ∨ k = 4 ∨ k = 5 ∨ k = 6 ∨ k = 7 ∨ k = 8 := by omega
  rcases this with rfl | rfl | rfl | rfl | rfl | rfl | rfl | rfl <;> decide
theorem callW_at {W : List (List UInt8)} {k : Int} {B : List (Int × Int)} {V : List Int} (hl : 2 ≤ W.length) (hk : kindW W = k) (h0 : ¬ k = 0) (hb : bndK k = B) (h : numsE (restW W) B = 0 ∧ numsV (restW W) B = V) :
    callW W = (⟨1, V.getD 0 0, 0, k, if ¬ k = 1 ∧ ¬ k = 2 then u32R (V.getD 1 0) else 0, if k = 1 ∨ k = 6 then u32R (V.getD (V.length - 1) 0) else 0⟩, 0) := by
  subst hk hb
  rw [callW_ok (by omega) h0 h.1]; unfold callA1; rw [h.2]
theorem actW_words {a : ActM} {n : Nat} (hr : rightO a) (hf : a.fits) (hn : 1 ≤ n ∧ n ≤ 10000) (h1 : a.k = 2 ∨ a.k = 5 ∨ n = 1) : actW (wordsA a n) = (a, (n : Int), 0) := by
  unfold rightO at hr
  unfold ActM.fits isI64 at hf
  obtain ⟨k, th, ln, ok, key, val⟩ := a
  simp only at hr hf h1
  have e0 : k = 1 ∨ k = 2 ∨ k = 3 ∨ k = 4 ∨ k = 5 := by omega
  have eth : numW (dg th.toNat) 0 63 = (th, 0) := by rw [numW_dg (by omega) (by omega) (by omega), Int.toNat_of_nonneg (by omega)]
  rcases e0 with rfl | rfl | rfl | rfl | rfl
  · obtain rfl : n = 1 := by omega
    obtain rfl : ln = 0 := by omega
    have hok : 1 ≤ ok ∧ ok ≤ 8 := by omega
    have ekey : numW (dg key.toNat) 0 4294967295 = (key, 0) := by rw [numW_dg (by omega) (by omega) (by omega), Int.toNat_of_nonneg (by omega)]
    have eval : numW (dg val.toNat) 0 4294967295 = (val, 0) := by rw [numW_dg (by omega) (by omega) (by omega), Int.toNat_of_nonneg (by omega)]
    have hkd := kind_at hok
    have fin : ∀ X : List (List UInt8), wordsA ⟨1, th, 0, ok, key, val⟩ 1 = callN :: X → callW X = (⟨1, th, 0, ok, key, val⟩, 0) → actW (wordsA ⟨1, th, 0, ok, key, val⟩ 1) = (⟨1, th, 0, ok, key, val⟩, ((1 : Nat) : Int), 0) := by
      intro X hX hc
      rw [hX]; unfold actW
      rw [if_pos (show (callN :: X).getD 0 [] = [99, 97, 108, 108] from rfl), show (callN :: X).drop 1 = X from rfl, hc]; rfl
    by_cases c1 : ok = 1
    · subst c1
      obtain rfl : key = 0 := by omega
      refine fin [dg th.toNat, opNm.tail.getD ((1 : Int) - 1).toNat [], dg val.toNat] (by simp [wordsA, keyA, valA]) ?_
      rw [callW_at (W := [dg th.toNat, opNm.tail.getD ((1 : Int) - 1).toNat [], dg val.toNat]) (k := 1) (B := [(0, 63), (0, 4294967295)]) (V := [th, val]) (by simp) (kindW_cons.trans hkd) (by decide) (bnd1 rfl) (nums2 (b := (0, 63)) (c := (0, 4294967295)) eth eval)]
      simp [u32R_of hf.2.2.2.2.2.1 hf.2.2.2.2.2.2]
    · by_cases c2 : ok = 2
      · subst c2
        obtain rfl : key = 0 := by omega
        obtain rfl : val = 0 := by omega
        refine fin [dg th.toNat, opNm.tail.getD ((2 : Int) - 1).toNat []] (by simp [wordsA, keyA, valA]) ?_
        rw [callW_at (W := [dg th.toNat, opNm.tail.getD ((2 : Int) - 1).toNat []]) (k := 2) (B := [(0, 63)]) (V := [th]) (by simp) (kindW_cons.trans hkd) (by decide) (bnd2 rfl) (nums1 (b := (0, 63)) eth)]
        simp
      · by_cases c6 : ok = 6
        · subst c6
          refine fin [dg th.toNat, opNm.tail.getD ((6 : Int) - 1).toNat [], dg key.toNat, dg val.toNat] (by simp [wordsA, keyA, valA]) ?_
          rw [callW_at (W := [dg th.toNat, opNm.tail.getD ((6 : Int) - 1).toNat [], dg key.toNat, dg val.toNat]) (k := 6) (B := [(0, 63), (0, 4294967295), (0, 4294967295)]) (V := [th, key, val]) (by simp) (kindW_cons.trans hkd) (by decide) (bnd6 rfl) (nums3 (b := (0, 63)) (c := (0, 4294967295)) (d := (0, 4294967295)) eth ekey eval)]
          simp [u32R_of hf.2.2.2.2.1.1 hf.2.2.2.2.1.2, u32R_of hf.2.2.2.2.2.1 hf.2.2.2.2.2.2]
        · obtain rfl : val = 0 := by omega
          refine fin [dg th.toNat, opNm.tail.getD (ok - 1).toNat [], dg key.toNat] (by simp [wordsA, keyA, valA, c1, c2, c6]) ?_
          rw [callW_at (W := [dg th.toNat, opNm.tail.getD (ok - 1).toNat [], dg key.toNat]) (k := ok) (B := [(0, 63), (0, 4294967295)]) (V := [th, key]) (by simp) (kindW_cons.trans hkd) (by omega) (bndo ⟨c1, c2, c6⟩) (nums2 (b := (0, 63)) (c := (0, 4294967295)) eth ekey)]
          simp [c1, c2, c6, u32R_of hf.2.2.2.2.1.1 hf.2.2.2.2.1.2]
  · obtain ⟨rfl, rfl, rfl, rfl⟩ : ln = 0 ∧ ok = 0 ∧ key = 0 ∧ val = 0 := by omega
    have en : numW (dg n) 1 10000 = ((n : Int), 0) := numW_dg (by omega) (by omega) (by omega)
    have h := nums2 (b := (0, 63)) (c := (1, 10000)) eth en
    show actW [stepN, dg th.toNat, dg n] = _
    unfold actW
    rw [if_neg (show ¬ ([stepN, dg th.toNat, dg n] : List (List UInt8)).getD 0 [] = [99, 97, 108, 108] from (by decide : ¬ stepN = [99, 97, 108, 108])), if_pos (by rfl), show ([stepN, dg th.toNat, dg n] : List (List UInt8)).drop 1 = [dg th.toNat, dg n] from rfl, if_pos h.1, h.2]; rfl
  · obtain ⟨rfl, rfl, rfl, rfl⟩ : th = 0 ∧ ok = 0 ∧ key = 0 ∧ val = 0 := by omega
    obtain rfl : n = 1 := by omega
    have eln : numW (dg ln.toNat) 0 262143 = (ln, 0) := by rw [numW_dg (by omega) (by omega) (by omega), Int.toNat_of_nonneg (by omega)]
    have h := nums1 (b := (0, 262143)) eln
    show actW [evictN, dg ln.toNat] = _
    unfold actW
    rw [if_neg (show ¬ ([evictN, dg ln.toNat] : List (List UInt8)).getD 0 [] = [99, 97, 108, 108] from (by decide : ¬ evictN = [99, 97, 108, 108])), if_neg (show ¬ ([evictN, dg ln.toNat] : List (List UInt8)).getD 0 [] = [115, 116, 101, 112] from (by decide : ¬ evictN = [115, 116, 101, 112])), if_pos (by rfl), show ([evictN, dg ln.toNat] : List (List UInt8)).drop 1 = [dg ln.toNat] from rfl, if_pos h.1, h.2]; rfl
  · obtain ⟨rfl, rfl, rfl, rfl, rfl⟩ : th = 0 ∧ ln = 0 ∧ ok = 0 ∧ key = 0 ∧ val = 0 := by omega
    obtain rfl : n = 1 := by omega
    decide
  · obtain ⟨rfl, rfl, rfl, rfl, rfl⟩ : th = 0 ∧ ln = 0 ∧ ok = 0 ∧ key = 0 ∧ val = 0 := by omega
    have en : numW (dg n) 1 10000 = ((n : Int), 0) := numW_dg (by omega) (by omega) (by omega)
    have h := nums1 (b := (1, 10000)) en
    show actW [reviveN, dg n] = _
    unfold actW
    rw [if_neg (show ¬ ([reviveN, dg n] : List (List UInt8)).getD 0 [] = [99, 97, 108, 108] from (by decide : ¬ reviveN = [99, 97, 108, 108])), if_neg (show ¬ ([reviveN, dg n] : List (List UInt8)).getD 0 [] = [115, 116, 101, 112] from (by decide : ¬ reviveN = [115, 116, 101, 112])), if_neg (show ¬ ([reviveN, dg n] : List (List UInt8)).getD 0 [] = [101, 118, 105, 99, 116] from (by decide : ¬ reviveN = [101, 118, 105, 99, 116])), if_pos (by rfl), show ([reviveN, dg n] : List (List UInt8)).drop 1 = [dg n] from rfl, if_pos h.1, h.2]; rfl
theorem opw (k : Nat) : ∀ y ∈ opNm.tail.getD k [], y ≠ 32 ∧ y ≠ 10 := by
  rcases Nat.lt_or_ge k 8 with h | h
  · revert k; decide
  · rw [List.getD_eq_getElem?_getD, List.getElem?_eq_none (by simpa [opNm] using h)]; simp
theorem awords_free {a : ActM} {n : Nat} : ∀ x ∈ wordsA a n, ∀ y ∈ x, y ≠ 32 ∧ y ≠ 10 := by
  have hd : ∀ m : Nat, ∀ y ∈ dg m, y ≠ 32 ∧ y ≠ 10 := fun m y hy => ⟨dg_no (by unfold isD; decide) y hy, dg_no (by unfold isD; decide) y hy⟩
  have hc : ∀ x ∈ [callN, stepN, evictN, reviveN, crashN], ∀ y ∈ x, y ≠ 32 ∧ y ≠ 10 := by decide
  intro x hx
  unfold wordsA keyA valA at hx
  have key : x ∈ [callN, stepN, evictN, reviveN, crashN] ∨ (∃ m, x = dg m) ∨ ∃ k, x = opNm.tail.getD k [] := by
    (repeat' split at hx) <;> simp only [List.mem_append, List.mem_cons, List.not_mem_nil, or_false] at hx ⊢ <;> (repeat' (rcases hx with hx | hx)) <;> (try subst hx) <;> first | exact .inr (.inl ⟨_, rfl⟩) | exact .inr (.inr ⟨_, rfl⟩) | (refine .inl ?_; simp)
  rcases key with h | ⟨m, rfl⟩ | ⟨k, rfl⟩
  · exact hc x h
  · exact hd m
  · exact opw k
theorem jn_head (c : UInt8) (x : List UInt8) (r : List (List UInt8)) : ∃ t, K.jn c (x :: r) = x ++ t := by
  cases r with
  | nil => exact ⟨[], by simp [K.jn]⟩
  | cons y r => exact ⟨_, rfl⟩
theorem awords_cons {a : ActM} {n : Nat} : ∃ x r, wordsA a n = x :: r ∧ x ∈ [callN, stepN, evictN, reviveN, crashN] := by
  unfold wordsA
  (repeat' split) <;> exact ⟨_, _, rfl, by simp⟩
theorem arow_head {a : ActM} {n : Nat} : K.jn 32 (wordsA a n) ≠ [] ∧ ¬ (K.jn 32 (wordsA a n)).getD 0 0 = 35 := by
  obtain ⟨x, r, hw, hx⟩ := awords_cons (a := a) (n := n)
  obtain ⟨t, ht⟩ := jn_head 32 x r
  rw [hw, ht]
  simp only [List.mem_cons, List.not_mem_nil, or_false] at hx
  rcases hx with rfl | rfl | rfl | rfl | rfl <;> exact ⟨by simp [callN, stepN, evictN, reviveN, crashN], by simp [callN, stepN, evictN, reviveN, crashN]⟩
theorem arow_cut {a : ActM} {n : Nat} {rest : List UInt8} : K.cutS 10 (rowA a n ++ rest) = (K.jn 32 (wordsA a n), rest, true) := by
  unfold rowA
  rw [List.append_assoc]
  exact cut_mid (jn_no (by decide) fun x hx y hy => (awords_free x hx y hy).2)
theorem arow_act {a : ActM} {n : Nat} {rest : List UInt8} (hr : rightO a) (hf : a.fits) (hn : 1 ≤ n ∧ n ≤ 10000) (h1 : a.k = 2 ∨ a.k = 5 ∨ n = 1) : ¬ skipR (rowA a n ++ rest) ∧ rowAct (rowA a n ++ rest) = (a, (n : Int), 0) ∧ rowNx (rowA a n ++ rest) = rest := by
  refine ⟨?_, ?_, ?_⟩
  · unfold skipR; rw [arow_cut]
    rintro (h | h)
    · exact arow_head.1 h
    · exact arow_head.2 h
  · unfold rowAct; rw [arow_cut, K.spl_jn 32 (by obtain ⟨x, r, hw, _⟩ := awords_cons (a := a) (n := n); rw [hw]; simp) fun x hx y hy => (awords_free x hx y hy).1]
    exact actW_words hr hf hn h1
  · unfold rowNx; rw [arow_cut]
theorem alk_rep {L : List ActM} (h : 0 < L.length) : List.replicate (alk L) (L.getD 0 act0) ++ L.drop (alk L) = L := by
  obtain ⟨h1, h2, h3, h4, _⟩ := alk_P h
  have : L.take (alk L) = List.replicate (alk L) (L.getD 0 act0) := by
    refine List.ext_getElem (by simp; omega) fun i hi _ => ?_
    rw [List.length_take] at hi
    have := h4 i (by omega)
    rw [List.getElem_replicate, List.getElem_take, ← this]
    simp [show i < L.length by omega]
  conv => rhs; rw [← List.take_append_drop (alk L) L]
  rw [this]
theorem read_wrG : ∀ (f : Nat) (L : List ActM) (k : Nat) (O : List ActM), L.length ≤ f → allRt L → allAf L → O.length + L.length ≤ 20000 → readG ((wrM L).length + 1) (wrM L) k O = (O ++ L, 0, 0)
  | 0, L, k, O, h, _, _, _ => by
    have : L = [] := List.eq_nil_of_length_eq_zero (by omega)
    subst this; rw [wrM_nil, List.append_nil]; rfl
  | f + 1, L, k, O, h, hr, hf, hO => by
    by_cases hL : 0 < L.length
    · have hap := alk_P hL
      obtain ⟨a1, a2, a3, a4, a5, a6⟩ := hap
      obtain ⟨r1, r2, r3⟩ := arow_act (rest := wrM (L.drop (alk L))) (hr 0 hL) (hf 0) ⟨a1, a3⟩ (by unfold kind25 at a5; omega)
      have hne : ¬ wrM L = [] := by rw [wrM_step hL]; intro e; have := congrArg List.length e; unfold rowA at this; simp at this
      have e := wrM_step hL
      rw [← e] at r1 r2 r3
      have key := readG_ok (L := wrM L) (k := k) (O := O) rfl hne r1 (by rw [r2]) (by rw [r2]; show ¬ 20000 < (O.length : Int) + ((alk L : Nat) : Int); omega)
      rw [← key, r2, r3]
      show readG _ _ _ (O ++ List.replicate ((alk L : Nat) : Int).toNat (L.getD 0 act0)) = _
      rw [Int.toNat_natCast, read_wrG f (L.drop (alk L)) (k + 1) _ (by rw [List.length_drop]; omega) (allRt_drop hr) (allAf_drop hf) (by rw [List.length_append, List.length_replicate, List.length_drop]; omega), List.append_assoc, alk_rep hL]
    · have : L = [] := List.eq_nil_of_length_eq_zero (by omega)
      subst this; rw [wrM_nil, List.append_nil]; rfl
theorem read_wr {L : List ActM} (hr : allRt L) (hf : allAf L) (h : L.length ≤ 20000) (h2 : (wrM L).length ≤ 65536) : readM (wrM L) = (L, 0, 0) := by
  unfold readM
  rw [if_neg (by omega), read_wrG L.length L 0 [] (Nat.le_refl _) hr hf (by simpa using h)]; rfl
theorem wrG_len : ∀ (f : Nat) (L : List ActM), allRt L → allAf L → (wrG f L).length ≤ 106 * L.length
  | 0, _, _, _ => by simp [wrG]
  | f + 1, L, hr, hf => by
    unfold wrG
    split
    · simp
    · rename_i hL
      have h0 := List.length_pos_iff.2 hL
      have hap := alk_P h0
      have h1 := (wordsA_sum (n := alk L) (hr 0 h0) (hf 0) hap.2.2.1).1
      have h2 := wrG_len f (L.drop (alk L)) (allRt_drop hr) (allAf_drop hf)
      have h3 := hap.1; have h4 := hap.2.1
      rw [List.length_drop] at h2
      unfold rowA; rw [List.length_append, List.length_append, List.length_singleton]; omega
theorem wrM_len {L : List ActM} (hr : allRt L) (hf : allAf L) : (wrM L).length ≤ 106 * L.length := wrG_len _ _ hr hf
def exT : List UInt8 := [99, 97, 108, 108, 32, 48, 32, 112, 117, 116, 32, 51, 32, 55, 10, 10, 35, 32, 116, 119, 111, 10, 115, 116, 101, 112, 32, 49, 32, 50]
def exA : List ActM := [⟨1, 0, 0, 6, 3, 7⟩, ⟨2, 1, 0, 0, 0, 0⟩, ⟨2, 1, 0, 0, 0, 0⟩]
theorem exA_read : readM exT = (exA, 0, 0) := by kernel_rfl
theorem exA_rt : allRt exA := by decide
theorem exA_af : allAf exA := by
  intro q
  rcases q with _ | _ | _ | q <;> simp [exA, ActM.fits, isI64, act0]
theorem exA_wr : wrM exA = [99, 97, 108, 108, 32, 48, 32, 112, 117, 116, 32, 51, 32, 55, 10, 115, 116, 101, 112, 32, 49, 32, 50, 10] := by kernel_rfl
end Go.Proofs.YtnehocjmgnhhhaaDoor
