import Derived.Test.YtnehocjmgnhhhaaFio2
/- Witness: an order without those that are left out: plain. -/
namespace Go.Proofs.Ytnehocjmgnhhhaa
open Go.RowKit
set_option linter.unusedVariables false
attribute [local irreducible] K.KW K.RW K.DW K.OW K.QR K.KC
def noB (mask : Nat) (x : Int) : Prop := ¬ mask / 2 ^ x.toNat % 2 = 1
instance (mask : Nat) (x : Int) : Decidable (noB mask x) := inferInstanceAs (Decidable (¬ _))
def okX (L : List CallM) (mask : Nat) (x : Int) : Prop := ¬ (¬ noB mask x ∧ (L.getD x.toNat call0).cr = false) ∧ ¬ (noB mask x ∧ (L.getD x.toNat call0).cr = true ∧ (L.getD x.toNat call0).wh = -1)
def filt (mask : Nat) (P : List Int) : List Int := P.filter fun x => decide (noB mask x)
theorem filt_y {mask : Nat} {P : List Int} {i : Nat} (h : i < P.length) (hn : noB mask (P.getD i 0)) : filt mask (P.take (i + 1)) = filt mask (P.take i) ++ [P.getD i 0] := by
 unfold filt; rw [tk_int h, List.filter_append]; simp only [List.filter_cons, decide_eq_true hn, if_true, List.filter_nil]
theorem filt_n {mask : Nat} {P : List Int} {i : Nat} (h : i < P.length) (hn : ¬ noB mask (P.getD i 0)) : filt mask (P.take (i + 1)) = filt mask (P.take i) := by
 unfold filt; rw [tk_int h, List.filter_append]; simp only [List.filter_cons, decide_eq_false hn, List.filter_nil, Bool.false_eq_true, if_false, List.append_nil]
theorem filt_len {mask : Nat} {P : List Int} : (filt mask P).length ≤ P.length := List.length_filter_le _ _
theorem filt_mem {mask : Nat} {P : List Int} {x : Int} : x ∈ filt mask P ↔ x ∈ P ∧ noB mask x := by
 unfold filt; rw [List.mem_filter]; simp
theorem half_step {mask k : Nat} : mask / 2 ^ k / 2 = mask / 2 ^ (k + 1) := by rw [Nat.div_div_eq_div_mul, Nat.pow_succ]
def hitD (L : List CallM) (S : StM) (p : List Int) (k : Nat) (T : StM) : Prop := (∀ j, j < p.length → okX L k (p.getD j 0)) ∧ rspP L (filt k p) ∧ runN L S (filt k p) = some T
def hitS (L : List CallM) (S : StM) (ps : List (List Int)) (M i mk : Nat) (T : StM) : Prop := ∃ q k, (q < i ∨ (q = i ∧ k < mk)) ∧ k < M ∧ hitD L S (ps.getD q []) k T
theorem hit0 {L : List CallM} {S : StM} {ps : List (List Int)} {M : Nat} : ∀ T, T ∈ stsE [] ↔ hitS L S ps M 0 0 T := fun T => by
 constructor
 ·intro h; simp [stsE] at h
 ·rintro ⟨q, k, h, _⟩; omega
theorem hit_row {L : List CallM} {S : StM} {ps : List (List Int)} {M i mk : Nat} {A : List StM} (h : ∀ T, T ∈ A ↔ hitS L S ps M i mk T) (hm : M ≤ mk) : ∀ T, T ∈ A ↔ hitS L S ps M (i + 1) 0 T := fun T => by
 rw [h T]
 constructor
 ·rintro ⟨q, k, h1, h2, h3⟩; exact ⟨q, k, by omega, h2, h3⟩
 ·rintro ⟨q, k, h1, h2, h3⟩; exact ⟨q, k, by omega, h2, h3⟩
theorem hit_y {L : List CallM} {S : StM} {ps : List (List Int)} {M i k : Nat} {A : List StM} {T0 : StM} (h : ∀ T, T ∈ A ↔ hitS L S ps M i k T) (hk : k < M) (hh : hitD L S (ps.getD i []) k T0) : ∀ T, T ∈ A ++ [T0] ↔ hitS L S ps M i (k + 1) T := fun T => by
 rw [List.mem_append, List.mem_singleton, h T]
 constructor
 ·rintro (⟨q, j, h1, h2, h3⟩ | rfl)
  ·exact ⟨q, j, by omega, h2, h3⟩
  ·exact ⟨i, k, by omega, hk, hh⟩
 ·rintro ⟨q, j, h1, h2, h3⟩
  by_cases hc : q = i ∧ j = k
  ·obtain ⟨rfl, rfl⟩ := hc
   exact .inr (Option.some.inj (h3.2.2.symm.trans hh.2.2))
  ·exact .inl ⟨q, j, by omega, h2, h3⟩
theorem hit_n {L : List CallM} {S : StM} {ps : List (List Int)} {M i k : Nat} {A : List StM} (h : ∀ T, T ∈ A ↔ hitS L S ps M i k T) (hn : ∀ T, ¬ hitD L S (ps.getD i []) k T) : ∀ T, T ∈ A ↔ hitS L S ps M i (k + 1) T := fun T => by
 rw [h T]
 constructor
 ·rintro ⟨q, j, h1, h2, h3⟩; exact ⟨q, j, by omega, h2, h3⟩
 ·rintro ⟨q, j, h1, h2, h3⟩
  by_cases hc : q = i ∧ j = k
  ·obtain ⟨rfl, rfl⟩ := hc; exact absurd h3 (hn T)
  ·exact ⟨q, j, by omega, h2, h3⟩
def mkM (f : Nat → Bool) : Nat → Nat
 | 0 => 0
 | n + 1 => mkM f n + if f n = true then 2 ^ n else 0
theorem mkM_lt (f : Nat → Bool) : ∀ n, mkM f n < 2 ^ n
 | 0 => by simp [mkM]
 | n + 1 => by
  have := mkM_lt f n
  show mkM f n + _ < 2 ^ (n + 1)
  rw [Nat.pow_succ]
  split <;> omega
theorem mkM_bit (f : Nat → Bool) : ∀ n x, x < n → mkM f n / 2 ^ x % 2 = if f x = true then 1 else 0
 | 0, _, h => by omega
 | n + 1, x, h => by
  show (mkM f n + _) / 2 ^ x % 2 = _
  by_cases hx : x = n
  ·subst hx
   have h1 := mkM_lt f x
   have h2 : 0 < 2 ^ x := Nat.pos_of_ne_zero (by simp)
   split
   ·rw [Nat.add_div_right _ h2, Nat.div_eq_of_lt h1]
   ·rw [Nat.add_zero, Nat.div_eq_of_lt h1]
  ·rw [← mkM_bit f n x (by omega)]
   split
   ·have e : (2 : Nat) ^ n = 2 ^ x * (2 * 2 ^ (n - x - 1)) := by
     rw [← Nat.mul_assoc, ← Nat.pow_succ, ← Nat.pow_add]; congr 1; omega
    rw [e, Nat.add_mul_div_left _ _ (Nat.pos_of_ne_zero (by simp)), Nat.add_mul_mod_self_left]
   ·rw [Nat.add_zero]
theorem hit_good {L : List CallM} (hr : rightH L) {S T : StM} : hitS L S (ordN L.length) (2 ^ L.length) (ordN L.length).length 0 T ↔ ∃ o, goodU L (noneU L) o ∧ runN L S o = some T := by
 constructor
 ·rintro ⟨q, k, h1, _, h2, h3, h4⟩
  have hq : q < (ordN L.length).length := by omega
  have hp : (ordN L.length).getD q [] ∈ ordN L.length := by rw [List.getD_eq_getElem?_getD, List.getElem?_eq_getElem hq]; exact List.getElem_mem hq
  generalize (ordN L.length).getD q [] = p at hp h2 h3 h4
  obtain ⟨g1, g2⟩ := ordN_has hp
  have hok : ∀ x ∈ p, okX L k x := fun x hx => by
   obtain ⟨i, hi, rfl⟩ := List.mem_iff_getElem.1 hx
   have := h2 i hi
   rwa [getD_at hi] at this
  refine ⟨filt k p, ⟨g1.filter _, fun x hx => ?_, rsp_pair h3, fun j hj _ hn => ?_⟩, h4⟩
  ·obtain ⟨hx1, hx2⟩ := filt_mem.1 hx
   have := (g2 x).1 hx1
   exact ⟨this.1, this.2, rep_getD, fun hh => (hok x hx1).2 ⟨hx2, hh⟩⟩
  ·have hjp := (g2 (j : Int)).2 ⟨by omega, by omega⟩
   have hnb : ¬ noB k (j : Int) := fun hb => hn (filt_mem.2 ⟨hjp, hb⟩)
   have := (hok _ hjp).1
   rw [Int.toNat_natCast] at this
   cases hc : (L.getD j call0).cr with
   | true => rfl
   | false => exact absurd ⟨hnb, hc⟩ this
 ·rintro ⟨o, ⟨g1, g2, g3, g4⟩, hrun⟩
  let f : Nat → Bool := fun x => decide ((x : Int) ∉ o)
  let rest : List Int := ((List.range L.length).map (fun x : Nat => (x : Int))).filter fun x => decide (x ∉ o)
  have hrest : ∀ x, x ∈ rest ↔ (0 ≤ x ∧ x < (L.length : Int)) ∧ x ∉ o := fun x => by
   show x ∈ List.filter _ _ ↔ _
   rw [List.mem_filter, List.mem_map]
   constructor
   ·rintro ⟨⟨y, hy, rfl⟩, h⟩
    have := List.mem_range.1 hy
    exact ⟨⟨by omega, by omega⟩, by simpa using h⟩
   ·rintro ⟨⟨h1, h2⟩, h3⟩
    exact ⟨⟨x.toNat, List.mem_range.2 (by omega), by omega⟩, by simpa using h3⟩
  have hnd : rest.Nodup := List.Pairwise.filter _ (by
   rw [List.pairwise_map]
   exact List.nodup_range.imp fun h e => h (by omega))
  have hb : ∀ x : Int, 0 ≤ x → x < (L.length : Int) → (noB (mkM f L.length) x ↔ x ∈ o) := fun x h1 h2 => by
   unfold noB
   rw [mkM_bit f L.length x.toNat (by omega)]
   have e : ((x.toNat : Nat) : Int) = x := by omega
   have ef : f x.toNat = decide (x ∉ o) := by show decide (((x.toNat : Nat) : Int) ∉ o) = _; rw [e]
   rw [ef]
   by_cases hx : x ∈ o <;> simp [hx]
  have hp : o ++ rest ∈ ordN L.length := by
   refine ordN_all (List.nodup_append.2 ⟨g1, hnd, fun a ha b hb e => ((hrest b).1 hb).2 (e ▸ ha)⟩) fun x => ?_
   rw [List.mem_append]
   constructor
   ·rintro (h | h)
    ·exact ⟨(g2 x h).1, (g2 x h).2.1⟩
    ·exact ((hrest x).1 h).1
   ·intro h
    by_cases hx : x ∈ o
    ·exact .inl hx
    ·exact .inr ((hrest x).2 ⟨h, hx⟩)
  have hf : filt (mkM f L.length) (o ++ rest) = o := by
   unfold filt
   rw [List.filter_append, List.filter_eq_self.2 fun x hx => decide_eq_true ((hb x (g2 x hx).1 (g2 x hx).2.1).2 hx), List.filter_eq_nil_iff.2 fun x hx => ?_, List.append_nil]
   have := (hrest x).1 hx
   simp only [decide_eq_true_eq]
   exact fun hh => this.2 ((hb x this.1.1 this.1.2).1 hh)
  obtain ⟨q, hq, e⟩ := List.mem_iff_getElem.1 hp
  refine ⟨q, mkM f L.length, .inl hq, mkM_lt f _, ?_⟩
  rw [List.getD_eq_getElem?_getD, List.getElem?_eq_getElem hq]
  show hitD L S ((ordN L.length)[q]) _ T
  rw [e]
  refine ⟨fun j hj => ?_, by rw [hf]; exact pair_rsp g3 fun x hx => ⟨(g2 x hx).1, (g2 x hx).2.1⟩, by rw [hf]; exact hrun⟩
  rw [getD_at hj]
  have hx := List.getElem_mem hj
  rcases List.mem_append.1 hx with hx | hx
  ·have := g2 _ hx
   exact ⟨fun hh => hh.1 ((hb _ this.1 this.2.1).2 hx), fun hh => this.2.2.2 hh.2⟩
  ·have := (hrest _).1 hx
   refine ⟨fun hh => ?_, fun hh => this.2 ((hb _ this.1.1 this.1.2).1 hh.1)⟩
   have hc := g4 _ (by omega : ((o ++ rest)[j]).toNat < L.length) rep_getD (by rw [show ((((o ++ rest)[j]).toNat : Nat) : Int) = (o ++ rest)[j] by omega]; exact this.2)
   rw [hh.2] at hc; cases hc
end Go.Proofs.Ytnehocjmgnhhhaa
