import Derived.Test.YtnehocjmgnhhhaaDoorFsr3
/- Reports: what is read of a line, by the code and by the document: the plain law. -/
namespace Go.Proofs.YtnehocjmgnhhhaaDoor
open Go.RowKit
set_option linter.unusedVariables false
attribute [local irreducible] K.KW K.RW K.DW K.OW K.QR K.KC
theorem dg_free (n : Nat) : ∀ y ∈ dg n, y ≠ 32 := fun y hy e => by
  have := dgD n y hy
  unfold isD at this
  rw [e] at this
  exact absurd this.1 (by decide)
theorem dgR_free (n : Int) : ∀ y ∈ dgR n, y ≠ 32 := by
  unfold dgR
  split
  · decide
  · exact dg_free _
theorem opNm_free (k : Nat) : ∀ y ∈ opNm.getD k [], y ≠ 32 := by
  rcases Nat.lt_or_ge k 9 with h | h
  · revert k; decide
  · rw [List.getD_eq_getElem?_getD, List.getElem?_eq_none (by simpa [opNm] using h)]; simp
theorem resNm_free (k : Nat) : ∀ y ∈ resNm.getD k [], y ≠ 32 := by
  rcases Nat.lt_or_ge k 6 with h | h
  · revert k; decide
  · rw [List.getD_eq_getElem?_getD, List.getElem?_eq_none (by simpa [resNm] using h)]; simp
theorem endR_free (c : CallM) : ∀ y ∈ endR c, y ≠ 32 := by
  unfold endR
  (repeat' split) <;> decide
theorem words_free (c : CallM) : ∀ x ∈ wordsR c, ∀ y ∈ x, y ≠ 32 := by
  intro x hx
  simp only [wordsR, List.mem_cons, List.not_mem_nil, or_false] at hx
  rcases hx with rfl | rfl | rfl | rfl | rfl | rfl | rfl | rfl | rfl | rfl
  · exact dgR_free _
  · exact opNm_free _
  · exact dgR_free _
  · exact dgR_free _
  · exact resNm_free _
  · exact dgR_free _
  · exact dgR_free _
  · exact dgR_free _
  · exact dgR_free _
  · exact endR_free c
theorem spl_line (c : CallM) : K.spl 32 (lineR c) = wordsR c := K.spl_jn 32 (by simp [wordsR]) (words_free c)
/-- a number that was written is read so -/
theorem numR_dgR {n m : Int} (h0 : 0 ≤ n) (h : n ≤ m) (hm : m ≤ 1099511627776) : numR (dgR n) m = n := by
  obtain ⟨k, rfl⟩ : ∃ k : Nat, n = k := ⟨n.toNat, by omega⟩
  rw [dgR_nat h0, Int.toNat_natCast]
  unfold numR
  rw [valdg, if_neg]
  rintro (e | e | e | e | e)
  · have := dg_pos k; rw [e] at this; simp at this
  · have := dg_len 12 k (by omega); omega
  · exact dg_lead k e
  · exact e (dgD k)
  · omega
theorem dgR_ne {n : Int} (h0 : 0 ≤ n) : dgR n ≠ [45] := fun e => by
  rw [dgR_nat h0] at e
  have := dgD n.toNat 45 (by rw [e]; simp)
  unfold isD at this
  exact absurd this.1 (by decide)
theorem when_dgR {n : Int} (h0 : -1 ≤ n) (h : n ≤ 1099511627776) : whenR (dgR n) = n ∧ (dgR n = [45] ∨ 0 ≤ numR (dgR n) 1099511627776) := by
  by_cases e : n = -1
  · subst e; exact ⟨rfl, .inl rfl⟩
  · have h1 := numR_dgR (n := n) (by omega) h (by omega)
    unfold whenR
    rw [if_neg (dgR_ne (by omega)), h1]
    exact ⟨rfl, .inr (by omega)⟩
theorem u32R_of {x : Int} (h : 0 ≤ x) (h2 : x ≤ 4294967295) : u32R x = x := IntWalk.u32_in x ⟨h, h2⟩
structure IsR (W : List (List UInt8)) : Prop where
  h0 : 0 ≤ numR (W.getD 0 []) 63
  h1 : 0 ≤ K.ixS (W.getD 1 []) opNm ∧ ¬ W.getD 1 [] = []
  h2 : 0 ≤ numR (W.getD 2 []) 4294967295
  h3 : 0 ≤ numR (W.getD 3 []) 4294967295
  h4 : 0 ≤ K.ixS (W.getD 4 []) resNm ∧ ¬ W.getD 4 [] = []
  h5 : 0 ≤ numR (W.getD 5 []) 4294967295
  h6 : W.getD 6 [] = [45] ∨ 0 ≤ numR (W.getD 6 []) 1099511627776
  h7 : W.getD 7 [] = [45] ∨ 0 ≤ numR (W.getD 7 []) 1099511627776
  h8 : W.getD 8 [] = [45] ∨ 0 ≤ numR (W.getD 8 []) 1099511627776
theorem isR_iff (W : List (List UInt8)) : isR W = true ↔ IsR W := by
  unfold isR
  simp only [Bool.and_eq_true, decide_eq_true_eq, true_and]
  constructor
  · rintro ⟨⟨⟨⟨⟨⟨⟨⟨h0, h1⟩, h2⟩, h3⟩, h4⟩, h5⟩, h6⟩, h7⟩, h8⟩
    exact ⟨h0, h1, h2, h3, h4, h5, h6, h7, h8⟩
  · rintro ⟨h0, h1, h2, h3, h4, h5, h6, h7, h8⟩
    exact ⟨⟨⟨⟨⟨⟨⟨⟨h0, h1⟩, h2⟩, h3⟩, h4⟩, h5⟩, h6⟩, h7⟩, h8⟩
/-- what was written is read so -/
theorem read_of_line {c : CallM} (hm : c.may) (hf : c.fits) : okR (lineR c) ∧ readR (lineR c) = c := by
  have hn := hm.1
  unfold CallM.nums at hn
  unfold CallM.fits at hf
  obtain ⟨n1, n2, n3, n4, n5, n6⟩ := hn
  have w6 := when_dgR (n := c.beg) (by omega) (by omega)
  have w7 := when_dgR (n := c.wh) (by omega) (by omega)
  have w8 := when_dgR (n := c.en) (by omega) (by omega)
  have e0 := numR_dgR (n := c.th) (m := 63) (by omega) (by omega) (by omega)
  have e2 := numR_dgR (n := c.key) (m := 4294967295) (by omega) (by omega) (by omega)
  have e3 := numR_dgR (n := c.val) (m := 4294967295) (by omega) (by omega) (by omega)
  have e5 := numR_dgR (n := c.rv) (m := 4294967295) (by omega) (by omega) (by omega)
  have o1 : ∀ k : Nat, 1 ≤ k → k ≤ 8 → K.ixS (opNm.getD k []) opNm = k ∧ ¬ opNm.getD k [] = [] := by
    intro k h1 h2
    have : k = 1 ∨ k = 2 ∨ k = 3 ∨ k = 4 ∨ k = 5 ∨ k = 6 ∨ k = 7 ∨ k = 8 := by omega
    rcases this with rfl | rfl | rfl | rfl | rfl | rfl | rfl | rfl <;> decide
  have o4 : ∀ k : Nat, k ≤ 5 → K.ixS (resNm.getD k []) resNm = k ∧ ¬ resNm.getD k [] = [] := by
    intro k h2
    have : k = 0 ∨ k = 1 ∨ k = 2 ∨ k = 3 ∨ k = 4 ∨ k = 5 := by omega
    rcases this with rfl | rfl | rfl | rfl | rfl | rfl <;> decide
  have a1 := o1 c.ok.toNat (by omega) (by omega)
  have a4 := o4 c.rk.toNat (by omega)
  have hr : IsR (wordsR c) := by
    refine ⟨?_, ⟨?_, a1.2⟩, ?_, ?_, ⟨?_, a4.2⟩, ?_, w6.2, w7.2, w8.2⟩
    · show 0 ≤ numR (dgR c.th) 63; omega
    · show 0 ≤ K.ixS (opNm.getD c.ok.toNat []) opNm; rw [a1.1]; omega
    · show 0 ≤ numR (dgR c.key) 4294967295; omega
    · show 0 ≤ numR (dgR c.val) 4294967295; omega
    · show 0 ≤ K.ixS (resNm.getD c.rk.toNat []) resNm; rw [a4.1]; omega
    · show 0 ≤ numR (dgR c.rv) 4294967295; omega
  have hq : (decide (¬ endR c = [45]) : Bool) = c.cr ∧ (decide (endR c = [107, 101, 112, 116]) : Bool) = c.kp := by
    have h2 := hm.2
    unfold endR
    cases hk : c.kp <;> cases hc : c.cr <;> simp_all
  have hrd : rdW (wordsR c) = c := by
    show (⟨numR (dgR c.th) 63, K.ixS (opNm.getD c.ok.toNat []) opNm, u32R (numR (dgR c.key) 4294967295), u32R (numR (dgR c.val) 4294967295), K.ixS (resNm.getD c.rk.toNat []) resNm, u32R (numR (dgR c.rv) 4294967295), whenR (dgR c.beg), whenR (dgR c.en), whenR (dgR c.wh), decide (¬ endR c = [45]), decide (endR c = [107, 101, 112, 116])⟩ : CallM) = c
    rw [e0, e2, e3, e5, a1.1, a4.1, w6.1, w7.1, w8.1, hq.1, hq.2, u32R_of (by omega) (by omega), u32R_of (by omega) (by omega), u32R_of (by omega) (by omega), show ((c.ok.toNat : Nat) : Int) = c.ok by omega, show ((c.rk.toNat : Nat) : Int) = c.rk by omega]
  refine ⟨⟨by rw [spl_line]; rfl, by rw [spl_line]; exact (isR_iff _).2 hr, by rw [spl_line, hrd]; rfl⟩, by unfold readR; rw [spl_line, hrd]⟩
end Go.Proofs.YtnehocjmgnhhhaaDoor
