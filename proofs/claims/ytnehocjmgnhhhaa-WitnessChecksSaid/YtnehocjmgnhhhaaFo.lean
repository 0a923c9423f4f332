import Derived.Test.YtnehocjmgnhhhaaFso8
/- Witness: the order in which it was so: plain. -/
namespace Go.Proofs.Ytnehocjmgnhhhaa
open Go.RowKit
set_option linter.unusedVariables false
attribute [local irreducible] K.KW K.RW K.DW K.OW K.QR K.KC
/-- ahead of another one: by when it was so, then by place -/
def ltO (L : List CallM) (p q : Int) : Prop := keyL L p < keyL L q ∨ (keyL L p = keyL L q ∧ p < q)
theorem ltO.irr {L : List CallM} {p : Int} (h : ltO L p p) : False := by rcases h with h | h <;> omega
theorem ltO.trans {L : List CallM} {p q r : Int} (h : ltO L p q) (k : ltO L q r) : ltO L p r := by
 unfold ltO at *
 rcases h with h | h <;> rcases k with k | k <;> first | (left; omega) | (right; omega)
/-- the order in which it was so -/
def isOrd (L : List CallM) (Q : List Int) : Prop := (∀ x, x ∈ Q ↔ x ∈ tookT L) ∧ Q.Pairwise (ltO L)
theorem ord_uniq {L : List CallM} : ∀ {Q R : List Int}, (∀ x, x ∈ Q ↔ x ∈ R) → Q.Pairwise (ltO L) → R.Pairwise (ltO L) → Q = R := by
 intro Q
 induction Q with
 | nil =>
  intro R h _ _
  cases R with
  | nil => rfl
  | cons y r => exact absurd ((h y).2 List.mem_cons_self) (by simp)
 | cons x q ih =>
  intro R h hq hr
  cases R with
  | nil => exact absurd ((h x).1 List.mem_cons_self) (by simp)
  | cons y r =>
   rw [List.pairwise_cons] at hq hr
   have e : x = y := by
    rcases List.mem_cons.1 ((h x).1 List.mem_cons_self) with e | e
    ·exact e
    ·rcases List.mem_cons.1 ((h y).2 List.mem_cons_self) with e2 | e2
     ·exact e2.symm
     ·exact absurd ((hr.1 x e).trans (hq.1 y e2)) ltO.irr
   subst e
   rw [ih (R := r) (fun z => ?_) hq.2 hr.2]
   have hz := h z
   constructor
   ·intro hm
    rcases List.mem_cons.1 (hz.1 (List.mem_cons_of_mem _ hm)) with e | e
    ·subst e; exact absurd (hq.1 _ hm) ltO.irr
    ·exact e
   ·intro hm
    rcases List.mem_cons.1 (hz.2 (List.mem_cons_of_mem _ hm)) with e | e
    ·subst e; exact absurd (hr.1 _ hm) ltO.irr
    ·exact e
theorem isOrd.uniq {L : List CallM} {Q R : List Int} (h : isOrd L Q) (k : isOrd L R) : Q = R := ord_uniq (fun x => (h.1 x).trans (k.1 x).symm) h.2 k.2
theorem tookU_mem {L : List CallM} {x : Int} : ∀ {j : Nat}, x ∈ tookU L j ↔ 0 ≤ x ∧ x < (j : Int) ∧ tookH (L.getD x.toNat call0)
 | 0 => by simp [tookU]; omega
 | j + 1 => by
  have ih := tookU_mem (L := L) (x := x) (j := j)
  unfold tookU
  by_cases hx : x = (j : Int)
  ·subst hx
   rw [Int.toNat_natCast] at *
   split
   ·rename_i h
    rw [List.mem_append, List.mem_singleton]
    exact ⟨fun _ => ⟨by omega, by omega, h⟩, fun _ => .inr rfl⟩
   ·rename_i h
    rw [ih]
    exact ⟨fun hh => absurd hh.2.1 (by omega), fun hh => absurd hh.2.2 h⟩
  ·split
   ·rw [List.mem_append, ih, List.mem_singleton]
    constructor
    ·rintro (h | h)
     ·exact ⟨h.1, by omega, h.2.2⟩
     ·exact absurd h hx
    ·rintro ⟨h1, h2, h3⟩; exact .inl ⟨h1, by omega, h3⟩
   ·rw [ih]
    constructor
    ·rintro ⟨h1, h2, h3⟩; exact ⟨h1, by omega, h3⟩
    ·rintro ⟨h1, h2, h3⟩; exact ⟨h1, by omega, h3⟩
theorem tookT_mem {L : List CallM} {x : Int} : x ∈ tookT L ↔ 0 ≤ x ∧ x < (L.length : Int) ∧ tookH (L.getD x.toNat call0) := tookU_mem
theorem tookU_rise {L : List CallM} : ∀ {j : Nat}, (tookU L j).Pairwise (· < ·)
 | 0 => List.Pairwise.nil
 | j + 1 => by
  unfold tookU
  split
  ·rw [List.pairwise_append]
   refine ⟨tookU_rise, by simp, fun a ha b hb => ?_⟩
   rw [List.mem_singleton.1 hb]; exact (tookU_mem.1 ha).2.1
  ·exact tookU_rise
theorem getD_mem {P : List Int} {i : Nat} (h : i < P.length) : P.getD i 0 ∈ P := by
 rw [List.getD_eq_getElem?_getD, List.getElem?_eq_getElem h]; exact List.getElem_mem h
theorem getD_at {P : List Int} {i : Nat} (h : i < P.length) : P.getD i 0 = P[i] := by
 rw [List.getD_eq_getElem?_getD, List.getElem?_eq_getElem h]; rfl
theorem took_val (L : List CallM) : valP L (tookT L) := fun i hi => by
 have := tookT_mem.1 (getD_mem hi); exact ⟨this.1, this.2.1⟩
theorem took_stb (L : List CallM) : stbP L (tookT L) := fun i j hij hj _ => by
 have := List.pairwise_iff_getElem.1 (tookU_rise (L := L) (j := L.length)) i j (by have : (tookU L L.length).length = (tookT L).length := rfl; omega) hj hij
 rw [getD_at (by omega), getD_at hj]; exact this
theorem isOrd.of {L : List CallM} {Q : List Int} {n : Nat} (hn : (tookT L).length = n) (hk : keepP L (tookT L) Q 0 n) (hs : srtP L Q 0 n) : isOrd L Q := by
 obtain ⟨h1, h2, h3, h4, h5, h6⟩ := hk
 refine ⟨fun x => ⟨fun hx => ?_, fun hx => ?_⟩, ?_⟩
 ·obtain ⟨i, hi, rfl⟩ := List.mem_iff_getElem.1 hx
  obtain ⟨j, _, hj, e⟩ := h5 i (Nat.zero_le _) (by omega)
  rw [getD_at hi] at e; rw [e]; exact getD_mem (by omega)
 ·obtain ⟨i, hi, rfl⟩ := List.mem_iff_getElem.1 hx
  obtain ⟨j, _, hj, e⟩ := h6 i (Nat.zero_le _) (by omega)
  rw [getD_at hi] at e; rw [← e]; exact getD_mem (by omega)
 ·rw [List.pairwise_iff_getElem]
  intro i j hi hj hij
  have e1 := hs i j (Nat.zero_le _) hij (by omega)
  have e2 := h3 i j hij hj
  rw [getD_at hi, getD_at hj] at e1 e2
  unfold ltO
  by_cases he : keyL L Q[i] = keyL L Q[j]
  ·exact .inr ⟨he, e2 he⟩
  ·exact .inl (by omega)
-- the document's: again and again the first of those that are left
/-- the first of the left ones among so many; -1: there is none -/
def bstI (L : List CallM) (U : List Bool) (i : Nat) (b : Int) : Prop :=
 (b = -1 ∧ ∀ k, k < i → tookH (L.getD k call0) → U.getD k false = true) ∨
 (0 ≤ b ∧ b < (i : Int) ∧ tookH (L.getD b.toNat call0) ∧ U.getD b.toNat false = false ∧ ∀ k, k < i → tookH (L.getD k call0) → U.getD k false = false → (k : Int) = b ∨ ltO L b k)
theorem bstI.nil {L : List CallM} {U : List Bool} : bstI L U 0 (-1) := .inl ⟨rfl, fun k h => by omega⟩
theorem bstI.skip {L : List CallM} {U : List Bool} {i : Nat} {b : Int} (h : bstI L U i b) (hs : ¬ tookH (L.getD i call0) ∨ U.getD i false = true) : bstI L U (i + 1) b := by
 rcases h with ⟨h1, h2⟩ | ⟨h1, h2, h3, h4, h5⟩
 ·refine .inl ⟨h1, fun k hk ht => ?_⟩
  by_cases hc : k = i
  ·subst hc; exact hs.resolve_left (fun h => h ht)
  ·exact h2 k (by omega) ht
 ·refine .inr ⟨h1, by omega, h3, h4, fun k hk ht hu => ?_⟩
  by_cases hc : k = i
  ·subst hc; exact absurd (hs.resolve_left (fun h => h ht)) (by rw [hu]; simp)
  ·exact h5 k (by omega) ht hu
theorem keyL_nat {L : List CallM} {i : Nat} : keyL L (i : Int) = (L.getD i call0).wh := by unfold keyL; rw [Int.toNat_natCast]
theorem bstI.take {L : List CallM} {U : List Bool} {i : Nat} {b : Int} (h : bstI L U i b) (ht : tookH (L.getD i call0)) (hu : U.getD i false = false) (hb : b < 0 ∨ (L.getD i call0).wh < (L.getD b.toNat call0).wh) : bstI L U (i + 1) (i : Int) := by
 refine .inr ⟨by omega, by omega, by rw [Int.toNat_natCast]; exact ht, by rw [Int.toNat_natCast]; exact hu, fun k hk h1 h2 => ?_⟩
 by_cases hc : k = i
 ·subst hc; exact .inl rfl
 ·refine .inr (.inl ?_)
  rcases h with ⟨h3, h4⟩ | ⟨h3, h4, h5, h6, h7⟩
  ·exact absurd (h4 k (by omega) h1) (by rw [h2]; simp)
  ·have hb := hb.resolve_left (by omega)
   rw [keyL_nat, keyL_nat]
   rcases h7 k (by omega) h1 h2 with e | e
   ·rw [← e, Int.toNat_natCast] at hb; exact hb
   ·have e2 : keyL L b = (L.getD b.toNat call0).wh := rfl
    have e3 := keyL_nat (L := L) (i := k)
    unfold ltO at e; omega
theorem bstI.stay {L : List CallM} {U : List Bool} {i : Nat} {b : Int} (h : bstI L U i b) (hb : ¬ b < 0) (hw : ¬ (L.getD i call0).wh < (L.getD b.toNat call0).wh) : bstI L U (i + 1) b := by
 rcases h with ⟨h3, h4⟩ | ⟨h3, h4, h5, h6, h7⟩
 ·omega
 ·refine .inr ⟨h3, by omega, h5, h6, fun k hk h1 h2 => ?_⟩
  by_cases hc : k = i
  ·subst hc
   have e2 : keyL L b = (L.getD b.toNat call0).wh := rfl
   have e3 := keyL_nat (L := L) (i := k)
   unfold ltO; omega
  ·exact h7 k (by omega) h1 h2
/-- what is listed so far -/
def dOrd (L : List CallM) (U : List Bool) (out : List Int) (n : Nat) : Prop :=
 U.length = L.length ∧ out.Pairwise (ltO L) ∧ (∀ x, x ∈ out ↔ 0 ≤ x ∧ x < (L.length : Int) ∧ U.getD x.toNat false = true) ∧ (∀ i, i < L.length → U.getD i false = true → tookH (L.getD i call0)) ∧
 (∀ x, x ∈ out → ∀ i, i < L.length → tookH (L.getD i call0) → U.getD i false = false → ltO L x (i : Int)) ∧ (n + U.count false ≤ L.length ∨ ∀ i, i < L.length → tookH (L.getD i call0) → U.getD i false = true)
theorem rep_getD {n i : Nat} : (List.replicate n false).getD i false = false := by
 rw [List.getD_eq_getElem?_getD, List.getElem?_replicate]; split <;> rfl
theorem dOrd.nil {L : List CallM} : dOrd L (List.replicate L.length false) [] 0 :=
 ⟨List.length_replicate, List.Pairwise.nil, fun x => by rw [rep_getD]; simp, fun i _ h => by rw [rep_getD] at h; simp at h, fun x h => by simp at h, .inl (by rw [rep_count]; omega)⟩
theorem bset_getD {U : List Bool} {i k : Nat} (hi : i < U.length) : (U.set i true).getD k false = if i = k then true else U.getD k false := by
 rw [List.getD_eq_getElem?_getD, List.getElem?_set]
 split
 ·first | rfl | (rw [if_pos hi]; rfl)
 ·rfl
theorem dOrd.put {L : List CallM} {U : List Bool} {out : List Int} {n : Nat} {b : Int} (h : dOrd L U out n) (hb : bstI L U L.length b) (hp : 0 ≤ b) : dOrd L (U.set b.toNat true) (out ++ [b]) (n + 1) := by
 obtain ⟨h1, h2, h3, h4, h5, h6⟩ := h
 rcases hb with ⟨e, _⟩ | ⟨b1, b2, b3, b4, b5⟩
 ·omega
 have hbi : b.toNat < U.length := by omega
 have hbn : ((b.toNat : Nat) : Int) = b := by omega
 refine ⟨by rw [List.length_set, h1], ?_, fun x => ?_, fun i hi hu => ?_, fun x hx i hi ht hu => ?_, ?_⟩
 ·rw [List.pairwise_append]
  refine ⟨h2, by simp, fun x hx y hy => ?_⟩
  rw [List.mem_singleton.1 hy, ← hbn]; exact h5 x hx _ (by omega) b3 b4
 ·rw [List.mem_append, List.mem_singleton, h3, bset_getD hbi]
  by_cases hc : b.toNat = x.toNat
  ·rw [if_pos hc]
   constructor
   ·rintro (h | h)
    ·exact ⟨h.1, h.2.1, rfl⟩
    ·exact ⟨by omega, by omega, rfl⟩
   ·rintro ⟨k1, k2, _⟩; exact .inr (by omega)
  ·rw [if_neg hc]
   constructor
   ·rintro (h | h)
    ·exact h
    ·exact absurd (by rw [h]) hc
   ·intro h; exact .inl h
 ·rw [bset_getD hbi] at hu
  split at hu
  ·rename_i e; rw [← e]; exact b3
  ·exact h4 i hi hu
 ·rw [bset_getD hbi] at hu
  split at hu
  ·cases hu
  ·rename_i hne
   rcases List.mem_append.1 hx with hx | hx
   ·exact h5 x hx i hi ht hu
   ·rw [List.mem_singleton.1 hx]
    rcases b5 i hi ht hu with e | e
    ·omega
    ·exact e
 ·rcases h6 with h6 | h6
  ·have := count_set hbi b4; exact .inl (by omega)
  ·exact absurd (h6 b.toNat (by omega) b3) (by rw [b4]; simp)
theorem dOrd.stop {L : List CallM} {U : List Bool} {out : List Int} {n : Nat} {b : Int} (h : dOrd L U out n) (hb : bstI L U L.length b) (hp : ¬ 0 ≤ b) : dOrd L U out (n + 1) := by
 obtain ⟨h1, h2, h3, h4, h5, h6⟩ := h
 rcases hb with ⟨_, e⟩ | ⟨b1, b2, b3, b4, b5⟩
 ·exact ⟨h1, h2, h3, h4, h5, .inr e⟩
 ·omega
theorem dOrd.fin {L : List CallM} {U : List Bool} {out : List Int} {n : Nat} (h : dOrd L U out n) (hn : n = L.length) : isOrd L out := by
 obtain ⟨h1, h2, h3, h4, h5, h6⟩ := h
 have all : ∀ i, i < L.length → tookH (L.getD i call0) → U.getD i false = true := by
  rcases h6 with h6 | h6
  ·intro i hi _
   have hc : U.count false = 0 := by omega
   cases he : U.getD i false with
   | true => rfl
   | false =>
    have := List.count_eq_zero.1 hc
    exact absurd (by rw [List.getD_eq_getElem?_getD, List.getElem?_eq_getElem (by omega)] at he; rw [← show U[i] = false from he]; exact List.getElem_mem (by omega)) this
  ·exact h6
 refine ⟨fun x => ?_, h2⟩
 rw [h3, tookT_mem]
 constructor
 ·rintro ⟨k1, k2, k3⟩; exact ⟨k1, k2, h4 _ (by omega) k3⟩
 ·rintro ⟨k1, k2, k3⟩; exact ⟨k1, k2, all _ (by omega) k3⟩
theorem dOrd.len {L : List CallM} {U : List Bool} {out : List Int} {n : Nat} (h : dOrd L U out n) : U.length = L.length := h.1
end Go.Proofs.Ytnehocjmgnhhhaa
