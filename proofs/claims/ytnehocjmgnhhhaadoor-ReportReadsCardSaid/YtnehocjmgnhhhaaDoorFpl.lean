import Derived.Test.YtnehocjmgnhhhaaDoorFsr3
/- Reports: what is read of a line, by the code and by the document: the plain law. -/
namespace Go.Proofs.YtnehocjmgnhhhaaDoor
open Go.RowKit
set_option linter.unusedVariables false
attribute [local irreducible] K.KW K.RW K.DW K.OW K.QR K.KC
theorem dg_free (n : Nat) : ∀ y ∈ dg n, y ≠ 32 := fun y hy e => by
  have := dgD n y hy
  unfold isD at this
  rw [e] at this
  exact absurd this.1 (by decide)
theorem dgR_free (n : Int) : ∀ y ∈ dgR n, y ≠ 32 := by
  unfold dgR
  split
  · decide
  · exact dg_free _
theorem opNm_free (k : Nat) : ∀ y ∈ opNm.getD k [], y ≠ 32 := by
  rcases Nat.lt_or_ge k 9 with h | h
  · revert k; decide
  · rw [List.getD_eq_getElem?_getD, List.getElem?_eq_none (by simpa [opNm] using h)]; simp
theorem resNm_free (k : Nat) : ∀ y ∈ resNm.getD k [], y ≠ 32 := by
  rcases Nat.lt_or_ge k 6 with h | h
  · revert k; decide
  · rw [List.getD_eq_getElem?_getD, List.getElem?_eq_none (by simpa [resNm] using h)]; simp
theorem endR_free (c : CallM) : ∀ y ∈ endR c, y ≠ 32 := by
  unfold endR
  (repeat' split) <;> decide
theorem words_free (c : CallM) : ∀ x ∈ wordsR c, ∀ y ∈ x, y ≠ 32 := by
  intro x hx
  simp only [wordsR, List.mem_cons, List.not_mem_nil, or_false] at hx
  rcases hx with rfl | rfl | rfl | rfl | rfl | rfl | rfl | rfl | rfl | rfl
  · exact dgR_free _
  · exact opNm_free _
  · exact dgR_free _
  · exact dgR_free _
  · exact resNm_free _
  · exact dgR_free _
  · exact dgR_free _
  · exact dgR_free _
  · exact dgR_free _
  · exact endR_free c
theorem spl_line (c : CallM) : K.spl 32 (lineR c) = wordsR c := K.spl_jn 32 (by simp [wordsR]) (words_free c)
/-- a number that was read is written so -/
theorem dgR_numR {l : List UInt8} {m : Int} (h : 0 ≤ numR l m) : dgR (numR l m) = l := by
  unfold numR at h ⊢
  split
  · rename_i hh; rw [if_pos hh] at h; omega
  · rename_i hh
    unfold dgR
    rw [if_neg (by omega), Int.toNat_natCast]
    exact dg_val l (fun e => hh (.inl e)) (Classical.byContradiction fun e => hh (.inr (.inr (.inr (.inl e))))) (fun e => hh (.inr (.inr (.inl e))))
theorem dgR_when {x : List UInt8} (h : x = [45] ∨ 0 ≤ numR x 1099511627776) : dgR (whenR x) = x := by
  unfold whenR
  split
  · rename_i e; rw [e]; rfl
  · rename_i e; exact dgR_numR (h.resolve_left e)
theorem u32R_of {x : Int} (h : 0 ≤ x) (h2 : x ≤ 4294967295) : u32R x = x := IntWalk.u32_in x ⟨h, h2⟩
/-- names, found either way -/
theorem lx_op (x : List UInt8) : lxF x opNm 1 0 8 = if 0 ≤ K.ixS x opNm ∧ ¬ x = [] then K.ixS x opNm else 0 := by
  by_cases h1 : x = [101, 110, 113]; · subst h1; decide
  by_cases h2 : x = [100, 101, 113]; · subst h2; decide
  by_cases h3 : x = [97, 100, 100]; · subst h3; decide
  by_cases h4 : x = [100, 101, 108]; · subst h4; decide
  by_cases h5 : x = [104, 97, 115]; · subst h5; decide
  by_cases h6 : x = [112, 117, 116]; · subst h6; decide
  by_cases h7 : x = [103, 101, 116]; · subst h7; decide
  by_cases h8 : x = [99, 117, 116]; · subst h8; decide
  by_cases h0 : x = []; · subst h0; decide
  have e : K.ixS x opNm = -1 := by simp [K.ixS, opNm, h0, h1, h2, h3, h4, h5, h6, h7, h8]
  rw [e, if_neg (by omega)]
  have hs : ∀ {a : List UInt8}, ¬ x = a → ¬ a = x := fun h e => h e.symm
  simp [lxF, opNm, hs h1, hs h2, hs h3, hs h4, hs h5, hs h6, hs h7, hs h8]
theorem lx_res (x : List UInt8) : lxF x resNm 0 (-1) 6 = K.ixS x resNm := by
  by_cases h1 : x = [110, 111, 110, 101]; · subst h1; decide
  by_cases h2 : x = [111, 107]; · subst h2; decide
  by_cases h3 : x = [101, 109, 112, 116, 121]; · subst h3; decide
  by_cases h4 : x = [116, 104, 101, 114, 101]; · subst h4; decide
  by_cases h5 : x = [103, 111, 110, 101]; · subst h5; decide
  by_cases h6 : x = [102, 117, 108, 108]; · subst h6; decide
  have e : K.ixS x resNm = -1 := by simp [K.ixS, resNm, h1, h2, h3, h4, h5, h6]
  rw [e]
  have hs : ∀ {a : List UInt8}, ¬ x = a → ¬ a = x := fun h e => h e.symm
  simp [lxF, resNm, hs h1, hs h2, hs h3, hs h4, hs h5, hs h6]
theorem res_ne {x : List UInt8} (h : 0 ≤ K.ixS x resNm) : ¬ x = [] := fun e => by subst e; revert h; decide
theorem op_lt (x : List UInt8) : K.ixS x opNm ≤ 8 := by have := K.ixS_lt x opNm; simp [opNm] at this ⊢; omega
theorem res_lt (x : List UInt8) : K.ixS x resNm ≤ 5 := by have := K.ixS_lt x resNm; simp [resNm] at this ⊢; omega
theorem op_pos {x : List UInt8} (h : 0 ≤ K.ixS x opNm) (hx : ¬ x = []) : 1 ≤ K.ixS x opNm := by
  rcases Int.lt_or_le (K.ixS x opNm) 1 with h1 | h1
  · have h2 := K.ixS_get h
    have h3 : (K.ixS x opNm).toNat = 0 := by omega
    rw [h3] at h2; exact absurd h2.symm hx
  · exact h1
structure IsR (W : List (List UInt8)) : Prop where
  h0 : 0 ≤ numR (W.getD 0 []) 63
  h1 : 0 ≤ K.ixS (W.getD 1 []) opNm ∧ ¬ W.getD 1 [] = []
  h2 : 0 ≤ numR (W.getD 2 []) 4294967295
  h3 : 0 ≤ numR (W.getD 3 []) 4294967295
  h4 : 0 ≤ K.ixS (W.getD 4 []) resNm ∧ ¬ W.getD 4 [] = []
  h5 : 0 ≤ numR (W.getD 5 []) 4294967295
  h6 : W.getD 6 [] = [45] ∨ 0 ≤ numR (W.getD 6 []) 1099511627776
  h7 : W.getD 7 [] = [45] ∨ 0 ≤ numR (W.getD 7 []) 1099511627776
  h8 : W.getD 8 [] = [45] ∨ 0 ≤ numR (W.getD 8 []) 1099511627776
theorem isR_iff (W : List (List UInt8)) : isR W = true ↔ IsR W := by
  unfold isR
  simp only [Bool.and_eq_true, decide_eq_true_eq, true_and]
  constructor
  · rintro ⟨⟨⟨⟨⟨⟨⟨⟨h0, h1⟩, h2⟩, h3⟩, h4⟩, h5⟩, h6⟩, h7⟩, h8⟩
    exact ⟨h0, h1, h2, h3, h4, h5, h6, h7, h8⟩
  · rintro ⟨h0, h1, h2, h3, h4, h5, h6, h7, h8⟩
    exact ⟨⟨⟨⟨⟨⟨⟨⟨h0, h1⟩, h2⟩, h3⟩, h4⟩, h5⟩, h6⟩, h7⟩, h8⟩
theorem when_in {x : List UInt8} (h : x = [45] ∨ 0 ≤ numR x 1099511627776) : -1 ≤ whenR x ∧ whenR x ≤ 1099511627776 ∧ whenT x = whenR x := by
  unfold whenR whenT
  split
  · omega
  · rename_i e
    have h1 := h.resolve_left e
    have := numR_le h1
    rw [if_neg (by omega)]; omega
/-- what is right is written as it stands -/
theorem words_rdW {W : List (List UInt8)} (h10 : W.length = 10) (h : IsR W) (he : endR (rdW W) = W.getD 9 []) : wordsR (rdW W) = W := by
  obtain ⟨x0, x1, x2, x3, x4, x5, x6, x7, x8, x9, rfl⟩ := list10 h10
  obtain ⟨h0, h1, h2, h3, h4, h5, h6, h7, h8⟩ := h
  have he : endR (rdW [x0, x1, x2, x3, x4, x5, x6, x7, x8, x9]) = x9 := he
  have h0 : 0 ≤ numR x0 63 := h0
  have h1 : 0 ≤ K.ixS x1 opNm ∧ ¬ x1 = [] := h1
  have h2 : 0 ≤ numR x2 4294967295 := h2
  have h3 : 0 ≤ numR x3 4294967295 := h3
  have h4 : 0 ≤ K.ixS x4 resNm ∧ ¬ x4 = [] := h4
  have h5 : 0 ≤ numR x5 4294967295 := h5
  have h6 : x6 = [45] ∨ 0 ≤ numR x6 1099511627776 := h6
  have h7 : x7 = [45] ∨ 0 ≤ numR x7 1099511627776 := h7
  have h8 : x8 = [45] ∨ 0 ≤ numR x8 1099511627776 := h8
  unfold wordsR
  rw [he]
  show [dgR (numR x0 63), opNm.getD (K.ixS x1 opNm).toNat [], dgR (u32R (numR x2 4294967295)), dgR (u32R (numR x3 4294967295)), resNm.getD (K.ixS x4 resNm).toNat [], dgR (u32R (numR x5 4294967295)), dgR (whenR x6), dgR (whenR x7), dgR (whenR x8), x9] = _
  rw [u32R_of h2 (numR_le h2), u32R_of h3 (numR_le h3), u32R_of h5 (numR_le h5), dgR_numR h0, dgR_numR h2, dgR_numR h3, dgR_numR h5, dgR_when h6, dgR_when h7, dgR_when h8, K.ixS_get h1.1, K.ixS_get h4.1]
theorem may_rdW {W : List (List UInt8)} (h : IsR W) : (rdW W).may := by
  obtain ⟨h0, h1, h2, h3, h4, h5, h6, h7, h8⟩ := h
  have a0 := numR_le h0
  have a1 := op_pos h1.1 h1.2
  have a2 := op_lt (W.getD 1 [])
  have a4 := res_lt (W.getD 4 [])
  have a6 := when_in h6; have a7 := when_in h7; have a8 := when_in h8
  refine ⟨?_, ?_⟩
  · unfold CallM.nums rdW; simp only []; omega
  · show decide (¬ W.getD 9 [] = [45]) = true ∨ decide (W.getD 9 [] = [107, 101, 112, 116]) = false
    by_cases e : W.getD 9 [] = [107, 101, 112, 116]
    · left; rw [e]; decide
    · right; exact decide_eq_false e
theorem rdT_rdW {W : List (List UInt8)} (h : IsR W) (he : endR (rdW W) = W.getD 9 []) : rdT W = rdW W := by
  obtain ⟨h0, h1, h2, h3, h4, h5, h6, h7, h8⟩ := h
  have e9 : (decide (W.getD 9 [] = [99, 114, 97, 115, 104, 101, 100]) || decide (W.getD 9 [] = [107, 101, 112, 116])) = decide (¬ W.getD 9 [] = [45]) := by
    unfold endR rdW at he
    simp only [decide_eq_true_eq] at he
    split at he
    · rename_i e; rw [e]; decide
    · rename_i e
      split at he
      · rename_i e2; rw [← he]; decide
      · rename_i e2; rw [← he]; decide
  unfold rdT rdW
  rw [lx_op, if_pos h1, lx_res, (when_in h6).2.2, (when_in h7).2.2, (when_in h8).2.2, e9]
theorem okT_of {l : List UInt8} (h : okR l) : okT l ∧ rdT (K.spl 32 l) = readR l := by
  obtain ⟨h10, hb, he⟩ := h
  have hr := (isR_iff _).1 hb
  have e := rdT_rdW hr he
  refine ⟨⟨h10, hr.h0, hr.h2, hr.h3, hr.h5, ?_, ?_⟩, e⟩
  · rw [e]; exact may_rdW hr
  · rw [e]; unfold lineR; rw [words_rdW h10 hr he]; exact K.jn_spl 32 l
theorem okR_of {l : List UInt8} (h : okT l) : okR l := by
  obtain ⟨h10, h0, h2, h3, h5, hm, hl⟩ := h
  have hn := hm.1
  have hW : K.spl 32 l = wordsR (rdT (K.spl 32 l)) := (congrArg (K.spl 32) hl).symm.trans (spl_line _)
  have hw : ∀ i, (K.spl 32 l).getD i [] = (wordsR (rdT (K.spl 32 l))).getD i [] := fun i => by rw [← hW]
  have hx : ∀ x, whenT x ≥ -1 → x = [45] ∨ 0 ≤ numR x 1099511627776 := fun x hx => by
    by_cases e : x = [45]
    · exact .inl e
    · right
      unfold whenT at hx
      rw [if_neg e] at hx
      have := numR_ge x 1099511627776
      split at hx <;> omega
  unfold CallM.nums at hn
  have hn : (1 ≤ lxF ((K.spl 32 l).getD 1 []) opNm 1 0 8 ∧ _) ∧ (0 ≤ lxF ((K.spl 32 l).getD 4 []) resNm 0 (-1) 6 ∧ _) ∧ (-1 ≤ whenT ((K.spl 32 l).getD 6 []) ∧ _) ∧ (-1 ≤ whenT ((K.spl 32 l).getD 7 []) ∧ _) ∧ (-1 ≤ whenT ((K.spl 32 l).getD 8 []) ∧ _) ∧ _ := hn
  obtain ⟨⟨k1, _⟩, ⟨k4, _⟩, ⟨k6, _⟩, ⟨k7, _⟩, ⟨k8, _⟩, _⟩ := hn
  rw [lx_op] at k1
  rw [lx_res] at k4
  have hr : IsR (K.spl 32 l) := by
    refine ⟨h0, ?_, h2, h3, ⟨k4, res_ne k4⟩, h5, hx _ k6, hx _ k7, hx _ k8⟩
    by_cases e : 0 ≤ K.ixS ((K.spl 32 l).getD 1 []) opNm ∧ ¬ (K.spl 32 l).getD 1 [] = []
    · exact e
    · rw [if_neg e] at k1; omega
  have h9 : (K.spl 32 l).getD 9 [] = endR (rdT (K.spl 32 l)) := hw 9
  refine ⟨h10, (isR_iff _).2 hr, ?_⟩
  have k9 : (K.spl 32 l).getD 9 [] = [107, 101, 112, 116] ∨ (K.spl 32 l).getD 9 [] = [99, 114, 97, 115, 104, 101, 100] ∨ (K.spl 32 l).getD 9 [] = [45] := by
    rw [h9]; unfold endR
    (repeat' split) <;> simp
  unfold endR rdW
  simp only [decide_eq_true_eq]
  rcases k9 with k | k | k <;> rw [k] <;> decide
/-- what is read is written so -/
theorem line_of_read {l : List UInt8} (h : okR l) : (readR l).may ∧ lineR (readR l) = l ∧ (readR l).fits := by
  obtain ⟨h1, h2⟩ := okT_of h
  obtain ⟨_, _, _, _, _, hm, hl⟩ := h1
  rw [h2] at hm hl
  exact ⟨hm, hl, may_fits hm⟩
end Go.Proofs.YtnehocjmgnhhhaaDoor
