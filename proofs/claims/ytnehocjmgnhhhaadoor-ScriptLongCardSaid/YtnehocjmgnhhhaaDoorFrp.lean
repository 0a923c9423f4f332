import Derived.Test.YtnehocjmgnhhhaaDoorFs2
/- Reports: plain: digits and numbers. -/
namespace Go.Proofs.YtnehocjmgnhhhaaDoor
open Go.RowKit
set_option linter.unusedVariables false
attribute [local irreducible] K.KW K.RW K.DW K.OW K.QR K.KC
def dgF : Nat → Nat → List UInt8
  | 0, _ => []
  | f + 1, n => if n < 10 then [UInt8.ofNat (48 + n)] else dgF f (n / 10) ++ [UInt8.ofNat (48 + n % 10)]
/-- a number's digits -/
def dg (n : Nat) : List UInt8 := dgF (n + 1) n
theorem dgF_eq : ∀ (f g n : Nat), n < f → n < g → dgF f n = dgF g n
  | 0, _, _, h, _ => by omega
  | _, 0, _, _, h => by omega
  | f + 1, g + 1, n, hf, hg => by
    unfold dgF
    split
    · rfl
    · rw [dgF_eq f g (n / 10) (by omega) (by omega)]
theorem dg_lt {n : Nat} (h : n < 10) : dg n = [UInt8.ofNat (48 + n)] := by unfold dg dgF; rw [if_pos h]
theorem dg_ge {n : Nat} (h : ¬ n < 10) : dg n = dg (n / 10) ++ [UInt8.ofNat (48 + n % 10)] := by
  conv => lhs; unfold dg dgF
  rw [if_neg h, dgF_eq n (n / 10 + 1) (n / 10) (by omega) (by omega)]; rfl
theorem dg_len : ∀ (k n : Nat), n < 10 ^ (k + 1) → (dg n).length ≤ k + 1
  | 0, n, h => by rw [dg_lt (by omega)]; simp
  | k + 1, n, h => by
    by_cases hn : n < 10
    · rw [dg_lt hn]; simp
    · rw [dg_ge hn, List.length_append]
      have := dg_len k (n / 10) (by rw [Nat.pow_succ] at h; omega)
      simp; omega
theorem dg_pos (n : Nat) : 0 < (dg n).length := by
  by_cases hn : n < 10
  · rw [dg_lt hn]; simp
  · rw [dg_ge hn, List.length_append]; simp
theorem dg_len20 {n : Nat} (h : n ≤ 9223372036854775807) : (dg n).length ≤ 20 := dg_len 19 n (by omega)
/-- a digit -/
def isD (x : UInt8) : Prop := 48 ≤ x.toNat ∧ x.toNat ≤ 57
instance (x : UInt8) : Decidable (isD x) := inferInstanceAs (Decidable (_ ∧ _))
theorem ofD {d : Nat} (h : d < 10) : (UInt8.ofNat (48 + d)).toNat = 48 + d := by rw [UInt8.toNat_ofNat']; omega
theorem dg_isD : ∀ (k n : Nat), n < 10 ^ (k + 1) → ∀ x ∈ dg n, isD x
  | 0, n, h => by
    rw [dg_lt (by omega)]
    intro x hx
    rw [List.mem_singleton.1 hx]; unfold isD; rw [ofD (by omega)]; omega
  | k + 1, n, h => by
    by_cases hn : n < 10
    · rw [dg_lt hn]
      intro x hx
      rw [List.mem_singleton.1 hx]; unfold isD; rw [ofD hn]; omega
    · rw [dg_ge hn]
      intro x hx
      rcases List.mem_append.1 hx with hx | hx
      · exact dg_isD k (n / 10) (by rw [Nat.pow_succ] at h; omega) x hx
      · rw [List.mem_singleton.1 hx]; unfold isD; rw [ofD (by omega)]; omega
/-- the number that digits are -/
def val (l : List UInt8) : Nat := l.foldl (fun a x => 10 * a + (x.toNat - 48)) 0
theorem val_snoc (l : List UInt8) (x : UInt8) : val (l ++ [x]) = 10 * val l + (x.toNat - 48) := by simp [val]
theorem val_dg : ∀ (k n : Nat), n < 10 ^ (k + 1) → val (dg n) = n
  | 0, n, h => by rw [dg_lt (by omega)]; show 10 * 0 + ((UInt8.ofNat (48 + n)).toNat - 48) = n; rw [ofD (by omega)]; omega
  | k + 1, n, h => by
    by_cases hn : n < 10
    · rw [dg_lt hn]; show 10 * 0 + ((UInt8.ofNat (48 + n)).toNat - 48) = n; rw [ofD hn]; omega
    · rw [dg_ge hn, val_snoc, val_dg k (n / 10) (by rw [Nat.pow_succ] at h; omega), ofD (by omega)]; omega
theorem nlt10 (n : Nat) : n < 10 ^ (n + 1) := by
  have := Nat.lt_pow_self (a := 10) (n := n) (by omega)
  rw [Nat.pow_succ]; omega
theorem dgD (n : Nat) : ∀ x ∈ dg n, isD x := dg_isD n n (nlt10 n)
theorem valdg (n : Nat) : val (dg n) = n := val_dg n n (nlt10 n)
/-- no noughts ahead -/
def lead (l : List UInt8) : Prop := 1 < l.length ∧ l.getD 0 0 = 48
instance (l : List UInt8) : Decidable (lead l) := inferInstanceAs (Decidable (_ ∧ _))
theorem snoc_ind {p : List UInt8 → Prop} (h0 : p []) (h1 : ∀ l x, p l → p (l ++ [x])) : ∀ l, p l := fun l => by
  rw [← List.reverse_reverse l]
  induction l.reverse with
  | nil => exact h0
  | cons a t ih => rw [List.reverse_cons]; exact h1 _ _ ih
theorem val_lt (l : List UInt8) : (∀ x ∈ l, isD x) → val l < 10 ^ l.length := by
  refine snoc_ind (p := fun l => (∀ x ∈ l, isD x) → val l < 10 ^ l.length) ?_ ?_ l
  · intro _; simp [val]
  · intro l x ih h
    have h1 := ih fun y hy => h y (by simp [hy])
    have h2 := h x (by simp)
    unfold isD at h2
    rw [val_snoc, List.length_append, List.length_singleton, Nat.pow_succ]; omega
theorem getD0_app {l : List UInt8} {x : UInt8} (h : l ≠ []) : (l ++ [x]).getD 0 0 = l.getD 0 0 := by
  cases l with
  | nil => exact absurd rfl h
  | cons a t => rfl
theorem dg_lead (n : Nat) : ¬ lead (dg n) := fun h => by
  have h1 := val_lt (dg n) (dgD n)
  by_cases hn : n < 10
  · rw [dg_lt hn] at h; exact absurd h.1 (by simp)
  · have : ∀ (k n : Nat), n < 10 ^ (k + 1) → 0 < n → (dg n).getD 0 0 ≠ 48 := by
      intro k
      induction k with
      | zero =>
        intro n hn h0 e
        rw [dg_lt (by omega)] at e
        have e : UInt8.ofNat (48 + n) = 48 := e
        have := congrArg UInt8.toNat e
        rw [ofD (by omega)] at this
        have : 48 + n = 48 := this
        omega
      | succ k ih =>
        intro n hn h0
        by_cases h9 : n < 10
        · intro e
          rw [dg_lt h9] at e
          have e : UInt8.ofNat (48 + n) = 48 := e
          have := congrArg UInt8.toNat e
          rw [ofD h9] at this
          have : 48 + n = 48 := this
          omega
        · rw [dg_ge h9, getD0_app (fun e => by have := dg_pos (n / 10); rw [e] at this; simp at this)]
          exact ih (n / 10) (by rw [Nat.pow_succ] at hn; omega) (by omega)
    exact this n n (nlt10 n) (by omega) h.2
/-- a number as it is written in reports: -1 is none -/
def dgR (n : Int) : List UInt8 := if n = -1 then [45] else dg n.toNat
/-- a number read, up to another one; -1: it is none -/
def numR (l : List UInt8) (most : Int) : Int :=
  if l = [] ∨ 13 < l.length ∨ lead l ∨ ¬ (∀ x ∈ l, isD x) ∨ most < (val l : Int) then -1 else (val l : Int)
theorem notD {l : List UInt8} {i : Nat} (hi : i < l.length) (h : (l.getD i 0).toNat < 48 ∨ 57 < (l.getD i 0).toNat) : ¬ (∀ x ∈ l, isD x) := fun hh => by
  have := hh (l.getD i 0) (by rw [List.getD_eq_getElem?_getD, List.getElem?_eq_getElem hi]; exact List.getElem_mem hi)
  unfold isD at this; omega
theorem numR_lead {l : List UInt8} (h1 : 1 < l.length) (h2 : (((l.getD 0 0).toNat : Nat) : Int) = 48) : lead l := ⟨h1, UInt8.toNat_inj.1 (show (l.getD 0 0).toNat = 48 by omega)⟩
theorem numR_nlead {l : List UInt8} (h : ¬ (1 < l.length ∧ (((l.getD 0 0).toNat : Nat) : Int) = 48)) : ¬ lead l := fun hl => h ⟨hl.1, by rw [hl.2]; rfl⟩
end Go.Proofs.YtnehocjmgnhhhaaDoor
