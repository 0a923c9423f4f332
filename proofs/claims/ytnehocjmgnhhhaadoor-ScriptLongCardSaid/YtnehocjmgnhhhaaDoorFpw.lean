import Derived.Test.YtnehocjmgnhhhaaDoorFsc4
import Derived.Test.YtnehocjmgnhhhaaDoorFsw4
import Derived.Test.YtnehocjmgnhhhaaDoorFrt
/- Scripts: what was written is read so. -/
namespace Go.Proofs.YtnehocjmgnhhhaaDoor
open Go.RowKit
set_option linter.unusedVariables false
attribute [local irreducible] K.KW K.RW K.DW K.OW K.QR K.KC
theorem numW_dg {n : Nat} {a b : Int} (h1 : a ≤ (n : Int)) (h2 : (n : Int) ≤ b) (h : n < 10000000000) : numW (dg n) a b = ((n : Int), 0) := by
  have hl := dg_len 9 n (by omega)
  rw [numW_ok (by
    rintro (h | h | h)
    · have := dg_pos n; rw [h] at this; simp at this
    · exact dg_lead n h
    · exact h (dgD n)) (by rw [valdg]; omega), valdg]
theorem nums1 {x : List UInt8} {b : Int × Int} {v : Int} (h : numW x b.1 b.2 = (v, 0)) : numsE [x] [b] = 0 ∧ numsV [x] [b] = [v] := by
  simp [numsE, numsG, numE1, numsV, numV1, h, List.range_succ]
theorem nums2 {x y : List UInt8} {b c : Int × Int} {v u : Int} (h : numW x b.1 b.2 = (v, 0)) (h2 : numW y c.1 c.2 = (u, 0)) : numsE [x, y] [b, c] = 0 ∧ numsV [x, y] [b, c] = [v, u] := by
  simp [numsE, numsG, numE1, numsV, numV1, h, h2, List.range_succ]
theorem nums3 {x y z : List UInt8} {b c d : Int × Int} {v u t : Int} (h : numW x b.1 b.2 = (v, 0)) (h2 : numW y c.1 c.2 = (u, 0)) (h3 : numW z d.1 d.2 = (t, 0)) : numsE [x, y, z] [b, c, d] = 0 ∧ numsV [x, y, z] [b, c, d] = [v, u, t] := by
  simp [numsE, numsG, numE1, numsV, numV1, h, h2, h3, List.range_succ]
theorem kindW_cons {x y : List UInt8} {r : List (List UInt8)} : kindW (x :: y :: r) = K.ixS y opNm.tail + 1 := rfl
theorem kind_at {k : Int} (h : 1 ≤ k ∧ k ≤ 8) : K.ixS (opNm.tail.getD (k - 1).toNat []) opNm.tail + 1 = k := by
  have : k = 1 ∨ k = 2 ∨ k = 3 ∨ k = 4 ∨ k = 5 ∨ k = 6 ∨ k = 7 ∨ k = 8 := by omega
  rcases this with rfl | rfl | rfl | rfl | rfl | rfl | rfl | rfl <;> decide
theorem callW_at {W : List (List UInt8)} {k : Int} {B : List (Int × Int)} {V : List Int} (hl : 2 ≤ W.length) (hk : kindW W = k) (h0 : ¬ k = 0) (hb : bndK k = B) (h : numsE (restW W) B = 0 ∧ numsV (restW W) B = V) :
    callW W = (⟨1, V.getD 0 0, 0, k, if ¬ k = 1 ∧ ¬ k = 2 then u32R (V.getD 1 0) else 0, if k = 1 ∨ k = 6 then u32R (V.getD (V.length - 1) 0) else 0⟩, 0) := by
  subst hk hb
  rw [callW_ok (by omega) h0 h.1]; unfold callA1; rw [h.2]
theorem actW_words {a : ActM} {n : Nat} (hr : rightO a) (hf : a.fits) (hn : 1 ≤ n ∧ n ≤ 10000) (h1 : a.k = 2 ∨ a.k = 5 ∨ n = 1) : actW (wordsA a n) = (a, (n : Int), 0) := by
  unfold rightO at hr
  unfold ActM.fits isI64 at hf
  obtain ⟨k, th, ln, ok, key, val⟩ := a
  simp only at hr hf h1
  have e0 : k = 1 ∨ k = 2 ∨ k = 3 ∨ k = 4 ∨ k = 5 := by omega
  have eth : numW (dg th.toNat) 0 63 = (th, 0) := by rw [numW_dg (by omega) (by omega) (by omega), Int.toNat_of_nonneg (by omega)]
  rcases e0 with rfl | rfl | rfl | rfl | rfl
  · obtain rfl : n = 1 := by omega
    obtain rfl : ln = 0 := by omega
    have hok : 1 ≤ ok ∧ ok ≤ 8 := by omega
    have ekey : numW (dg key.toNat) 0 4294967295 = (key, 0) := by rw [numW_dg (by omega) (by omega) (by omega), Int.toNat_of_nonneg (by omega)]
    have eval : numW (dg val.toNat) 0 4294967295 = (val, 0) := by rw [numW_dg (by omega) (by omega) (by omega), Int.toNat_of_nonneg (by omega)]
    have hkd := kind_at hok
    have fin : ∀ X : List (List UInt8), wordsA ⟨1, th, 0, ok, key, val⟩ 1 = callN :: X → callW X = (⟨1, th, 0, ok, key, val⟩, 0) → actW (wordsA ⟨1, th, 0, ok, key, val⟩ 1) = (⟨1, th, 0, ok, key, val⟩, ((1 : Nat) : Int), 0) := by
      intro X hX hc
      rw [hX]; unfold actW
      rw [if_pos (show (callN :: X).getD 0 [] = [99, 97, 108, 108] from rfl), show (callN :: X).drop 1 = X from rfl, hc]; rfl
    by_cases c1 : ok = 1
    · subst c1
      obtain rfl : key = 0 := by omega
      refine fin [dg th.toNat, opNm.tail.getD ((1 : Int) - 1).toNat [], dg val.toNat] (by simp [wordsA, keyA, valA]) ?_
      rw [callW_at (W := [dg th.toNat, opNm.tail.getD ((1 : Int) - 1).toNat [], dg val.toNat]) (k := 1) (B := [(0, 63), (0, 4294967295)]) (V := [th, val]) (by simp) (kindW_cons.trans hkd) (by decide) (bnd1 rfl) (nums2 (b := (0, 63)) (c := (0, 4294967295)) eth eval)]
      simp [u32R_of hf.2.2.2.2.2.1 hf.2.2.2.2.2.2]
    · by_cases c2 : ok = 2
      · subst c2
        obtain rfl : key = 0 := by omega
        obtain rfl : val = 0 := by omega
        refine fin [dg th.toNat, opNm.tail.getD ((2 : Int) - 1).toNat []] (by simp [wordsA, keyA, valA]) ?_
        rw [callW_at (W := [dg th.toNat, opNm.tail.getD ((2 : Int) - 1).toNat []]) (k := 2) (B := [(0, 63)]) (V := [th]) (by simp) (kindW_cons.trans hkd) (by decide) (bnd2 rfl) (nums1 (b := (0, 63)) eth)]
        simp
      · by_cases c6 : ok = 6
        · subst c6
          refine fin [dg th.toNat, opNm.tail.getD ((6 : Int) - 1).toNat [], dg key.toNat, dg val.toNat] (by simp [wordsA, keyA, valA]) ?_
          rw [callW_at (W := [dg th.toNat, opNm.tail.getD ((6 : Int) - 1).toNat [], dg key.toNat, dg val.toNat]) (k := 6) (B := [(0, 63), (0, 4294967295), (0, 4294967295)]) (V := [th, key, val]) (by simp) (kindW_cons.trans hkd) (by decide) (bnd6 rfl) (nums3 (b := (0, 63)) (c := (0, 4294967295)) (d := (0, 4294967295)) eth ekey eval)]
          simp [u32R_of hf.2.2.2.2.1.1 hf.2.2.2.2.1.2, u32R_of hf.2.2.2.2.2.1 hf.2.2.2.2.2.2]
        · obtain rfl : val = 0 := by omega
          refine fin [dg th.toNat, opNm.tail.getD (ok - 1).toNat [], dg key.toNat] (by simp [wordsA, keyA, valA, c1, c2, c6]) ?_
          rw [callW_at (W := [dg th.toNat, opNm.tail.getD (ok - 1).toNat [], dg key.toNat]) (k := ok) (B := [(0, 63), (0, 4294967295)]) (V := [th, key]) (by simp) (kindW_cons.trans hkd) (by omega) (bndo ⟨c1, c2, c6⟩) (nums2 (b := (0, 63)) (c := (0, 4294967295)) eth ekey)]
          simp [c1, c2, c6, u32R_of hf.2.2.2.2.1.1 hf.2.2.2.2.1.2]
  · obtain ⟨rfl, rfl, rfl, rfl⟩ : ln = 0 ∧ ok = 0 ∧ key = 0 ∧ val = 0 := by omega
    have en : numW (dg n) 1 10000 = ((n : Int), 0) := numW_dg (by omega) (by omega) (by omega)
    have h := nums2 (b := (0, 63)) (c := (1, 10000)) eth en
    show actW [stepN, dg th.toNat, dg n] = _
    unfold actW
    rw [if_neg (show ¬ ([stepN, dg th.toNat, dg n] : List (List UInt8)).getD 0 [] = [99, 97, 108, 108] from (by decide : ¬ stepN = [99, 97, 108, 108])), if_pos (by rfl), show ([stepN, dg th.toNat, dg n] : List (List UInt8)).drop 1 = [dg th.toNat, dg n] from rfl, if_pos h.1, h.2]; rfl
  · obtain ⟨rfl, rfl, rfl, rfl⟩ : th = 0 ∧ ok = 0 ∧ key = 0 ∧ val = 0 := by omega
    obtain rfl : n = 1 := by omega
    have eln : numW (dg ln.toNat) 0 262143 = (ln, 0) := by rw [numW_dg (by omega) (by omega) (by omega), Int.toNat_of_nonneg (by omega)]
    have h := nums1 (b := (0, 262143)) eln
    show actW [evictN, dg ln.toNat] = _
    unfold actW
    rw [if_neg (show ¬ ([evictN, dg ln.toNat] : List (List UInt8)).getD 0 [] = [99, 97, 108, 108] from (by decide : ¬ evictN = [99, 97, 108, 108])), if_neg (show ¬ ([evictN, dg ln.toNat] : List (List UInt8)).getD 0 [] = [115, 116, 101, 112] from (by decide : ¬ evictN = [115, 116, 101, 112])), if_pos (by rfl), show ([evictN, dg ln.toNat] : List (List UInt8)).drop 1 = [dg ln.toNat] from rfl, if_pos h.1, h.2]; rfl
  · obtain ⟨rfl, rfl, rfl, rfl, rfl⟩ : th = 0 ∧ ln = 0 ∧ ok = 0 ∧ key = 0 ∧ val = 0 := by omega
    obtain rfl : n = 1 := by omega
    decide
  · obtain ⟨rfl, rfl, rfl, rfl, rfl⟩ : th = 0 ∧ ln = 0 ∧ ok = 0 ∧ key = 0 ∧ val = 0 := by omega
    have en : numW (dg n) 1 10000 = ((n : Int), 0) := numW_dg (by omega) (by omega) (by omega)
    have h := nums1 (b := (1, 10000)) en
    show actW [reviveN, dg n] = _
    unfold actW
    rw [if_neg (show ¬ ([reviveN, dg n] : List (List UInt8)).getD 0 [] = [99, 97, 108, 108] from (by decide : ¬ reviveN = [99, 97, 108, 108])), if_neg (show ¬ ([reviveN, dg n] : List (List UInt8)).getD 0 [] = [115, 116, 101, 112] from (by decide : ¬ reviveN = [115, 116, 101, 112])), if_neg (show ¬ ([reviveN, dg n] : List (List UInt8)).getD 0 [] = [101, 118, 105, 99, 116] from (by decide : ¬ reviveN = [101, 118, 105, 99, 116])), if_pos (by rfl), show ([reviveN, dg n] : List (List UInt8)).drop 1 = [dg n] from rfl, if_pos h.1, h.2]; rfl
theorem opw (k : Nat) : ∀ y ∈ opNm.tail.getD k [], y ≠ 32 ∧ y ≠ 10 := by
  rcases Nat.lt_or_ge k 8 with h | h
  · revert k; decide
  · rw [List.getD_eq_getElem?_getD, List.getElem?_eq_none (by simpa [opNm] using h)]; simp
theorem awords_free {a : ActM} {n : Nat} : ∀ x ∈ wordsA a n, ∀ y ∈ x, y ≠ 32 ∧ y ≠ 10 := by
  have hd : ∀ m : Nat, ∀ y ∈ dg m, y ≠ 32 ∧ y ≠ 10 := fun m y hy => ⟨dg_no (by unfold isD; decide) y hy, dg_no (by unfold isD; decide) y hy⟩
  have hc : ∀ x ∈ [callN, stepN, evictN, reviveN, crashN], ∀ y ∈ x, y ≠ 32 ∧ y ≠ 10 := by decide
  intro x hx
  unfold wordsA keyA valA at hx
  have key : x ∈ [callN, stepN, evictN, reviveN, crashN] ∨ (∃ m, x = dg m) ∨ ∃ k, x = opNm.tail.getD k [] := by
    (repeat' split at hx) <;> simp only [List.mem_append, List.mem_cons, List.not_mem_nil, or_false] at hx ⊢ <;> (repeat' (rcases hx with hx | hx)) <;> (try subst hx) <;> first | exact .inr (.inl ⟨_, rfl⟩) | exact .inr (.inr ⟨_, rfl⟩) | (refine .inl ?_; simp)
  rcases key with h | ⟨m, rfl⟩ | ⟨k, rfl⟩
  · exact hc x h
  · exact hd m
  · exact opw k
theorem jn_head (c : UInt8) (x : List UInt8) (r : List (List UInt8)) : ∃ t, K.jn c (x :: r) = x ++ t := by
  cases r with
  | nil => exact ⟨[], by simp [K.jn]⟩
  | cons y r => exact ⟨_, rfl⟩
theorem awords_cons {a : ActM} {n : Nat} : ∃ x r, wordsA a n = x :: r ∧ x ∈ [callN, stepN, evictN, reviveN, crashN] := by
  unfold wordsA
  (repeat' split) <;> exact ⟨_, _, rfl, by simp⟩
theorem arow_head {a : ActM} {n : Nat} : K.jn 32 (wordsA a n) ≠ [] ∧ ¬ (K.jn 32 (wordsA a n)).getD 0 0 = 35 := by
  obtain ⟨x, r, hw, hx⟩ := awords_cons (a := a) (n := n)
  obtain ⟨t, ht⟩ := jn_head 32 x r
  rw [hw, ht]
  simp only [List.mem_cons, List.not_mem_nil, or_false] at hx
  rcases hx with rfl | rfl | rfl | rfl | rfl <;> exact ⟨by simp [callN, stepN, evictN, reviveN, crashN], by simp [callN, stepN, evictN, reviveN, crashN]⟩
theorem arow_cut {a : ActM} {n : Nat} {rest : List UInt8} : K.cutS 10 (rowA a n ++ rest) = (K.jn 32 (wordsA a n), rest, true) := by
  unfold rowA
  rw [List.append_assoc]
  exact cut_mid (jn_no (by decide) fun x hx y hy => (awords_free x hx y hy).2)
theorem arow_act {a : ActM} {n : Nat} {rest : List UInt8} (hr : rightO a) (hf : a.fits) (hn : 1 ≤ n ∧ n ≤ 10000) (h1 : a.k = 2 ∨ a.k = 5 ∨ n = 1) : ¬ skipR (rowA a n ++ rest) ∧ rowAct (rowA a n ++ rest) = (a, (n : Int), 0) ∧ rowNx (rowA a n ++ rest) = rest := by
  refine ⟨?_, ?_, ?_⟩
  · unfold skipR; rw [arow_cut]
    rintro (h | h)
    · exact arow_head.1 h
    · exact arow_head.2 h
  · unfold rowAct; rw [arow_cut, K.spl_jn 32 (by obtain ⟨x, r, hw, _⟩ := awords_cons (a := a) (n := n); rw [hw]; simp) fun x hx y hy => (awords_free x hx y hy).1]
    exact actW_words hr hf hn h1
  · unfold rowNx; rw [arow_cut]
def exT : List UInt8 := [99, 97, 108, 108, 32, 48, 32, 112, 117, 116, 32, 51, 32, 55, 10, 10, 35, 32, 116, 119, 111, 10, 115, 116, 101, 112, 32, 49, 32, 50]
def exA : List ActM := [⟨1, 0, 0, 6, 3, 7⟩, ⟨2, 1, 0, 0, 0, 0⟩, ⟨2, 1, 0, 0, 0, 0⟩]
theorem exA_read : readM exT = (exA, 0, 0) := by kernel_rfl
theorem exA_rt : allRt exA := by decide
theorem exA_af : allAf exA := by
  intro q
  rcases q with _ | _ | _ | q <;> simp [exA, ActM.fits, isI64, act0]
theorem exA_wr : wrM exA = [99, 97, 108, 108, 32, 48, 32, 112, 117, 116, 32, 51, 32, 55, 10, 115, 116, 101, 112, 32, 49, 32, 50, 10] := by kernel_rfl
end Go.Proofs.YtnehocjmgnhhhaaDoor
