import Derived.Test.YtbfafebfkdbglaaGreatFlay2
import Derived.Test.YtbfafebfkdbglaaGreatFlist
/- Where everything lies: plain laws. -/
namespace Go.Proofs.YtbfafebfkdbglaaGreat
open Go.RowKit
set_option linter.unusedVariables false
attribute [local irreducible] K.KW K.RW K.DW K.OW K.QR K.KC
/-- each word with a name is where its name says -/
def PAt (c : Cfg) (l : List Nm) : Prop := ∀ j, j < l.length → 1 < (l.getD j nm0).k → toldS c (l.getD j nm0) = j
theorem getN_lt {l m : List Nm} {j : Nat} (h : j < l.length) : (l ++ m).getD j nm0 = l.getD j nm0 := by
 rw [List.getD_eq_getElem?_getD, List.getElem?_append_left h, List.getD_eq_getElem?_getD]
theorem getN_ge {l m : List Nm} {j : Nat} (h : l.length ≤ j) : (l ++ m).getD j nm0 = m.getD (j - l.length) nm0 := by
 rw [List.getD_eq_getElem?_getD, List.getElem?_append_right h, List.getD_eq_getElem?_getD]
theorem PAt_snoc {c : Cfg} {l : List Nm} {x : Nm} (h : PAt c l) (hx : toldS c x = l.length) : PAt c (l ++ [x]) := fun j hj hk => by
 by_cases hl : j < l.length
 ·rw [getN_lt hl] at hk ⊢; exact h j hl hk
 ·rw [List.length_append, List.length_singleton] at hj
  obtain rfl : j = l.length := by omega
  rw [getN_ge (Nat.le_refl _), Nat.sub_self]; exact hx
theorem PAt_fill {c : Cfg} {l : List Nm} (h : PAt c l) : PAt c (fillN l) := fun j hj hk => by
 unfold fillN at hj hk ⊢
 by_cases hl : j < l.length
 ·rw [getN_lt hl] at hk ⊢; exact h j hl hk
 ·rw [getN_ge (by omega)] at hk
  rw [List.getD_eq_getElem?_getD, List.getElem?_replicate] at hk
  split at hk <;> simp [nm0] at hk
theorem PAt_sup (c : Cfg) : ∀ i, PAt c (supT i)
 | 0 => fun j hj => by simp [supT] at hj
 | i + 1 => fun j hj hk => by
  rw [supT_succ] at hj hk ⊢
  by_cases hl : j < (supT i).length
  ·rw [getN_lt hl] at hk ⊢; exact PAt_sup c i j hl hk
  ·rw [List.length_append, List.length_singleton] at hj
   obtain rfl : j = (supT i).length := by omega
   rw [getN_ge (Nat.le_refl _), Nat.sub_self] at hk
   simp at hk
theorem PAt_head (c : Cfg) : PAt c headL := by
 unfold headL
 refine PAt_fill (PAt_snoc (PAt_fill (PAt_snoc (PAt_fill (PAt_snoc (PAt_sup c 16) ?_)) ?_)) ?_)
 all_goals
  simp only [fillN_len, List.length_append, supT_len, List.length_cons, List.length_nil]
  rfl
theorem told5 (c : Cfg) (a b : Int) : toldS c ⟨5, a, b⟩ = bucketS c a := rfl
theorem told6 (c : Cfg) (a b : Int) : toldS c ⟨6, a, b⟩ = threadS c a 0 := rfl
theorem told7 (c : Cfg) (a b : Int) : toldS c ⟨7, a, b⟩ = threadS c a 1 := rfl
theorem told8 (c : Cfg) (a b : Int) : toldS c ⟨8, a, b⟩ = logS c a b := rfl
theorem told9 (c : Cfg) (a b : Int) : toldS c ⟨9, a, b⟩ = slotS c a 0 := rfl
theorem told10 (c : Cfg) (a b : Int) : toldS c ⟨10, a, b⟩ = slotS c a 1 := rfl
theorem told11 (c : Cfg) (a b : Int) : toldS c ⟨11, a, b⟩ = slotS c a 2 := rfl
theorem told12 (c : Cfg) (a b : Int) : toldS c ⟨12, a, b⟩ = slotS c a 3 := rfl
theorem told13 (c : Cfg) (a b : Int) : toldS c ⟨13, a, b⟩ = slotS c a 4 := rfl
theorem told16 (c : Cfg) (a b : Int) : toldS c ⟨16, a, b⟩ = annS c a := rfl
theorem told17 (c : Cfg) (a b : Int) : toldS c ⟨17, a, b⟩ = aftS c a := rfl
theorem word_in {c : Cfg} {n many first size at_ : Int} (h : 0 ≤ n ∧ n < many) : wordS c n many first size at_ = (first + size * n) * 8 + at_ := if_pos h
theorem PAt_bk (c : Cfg) : ∀ j : Nat, (j : Int) ≤ c.bu → PAt c (bkT j)
 | 0, _ => PAt_head c
 | j + 1, h => by
  refine PAt_snoc (PAt_bk c j (by omega)) ?_
  rw [told5, bkT_len]
  unfold bucketS; rw [if_pos (by omega)]; omega
theorem PAt_th {c : Cfg} (hc : cfgOk c) : ∀ t : Nat, (t : Int) ≤ c.th → PAt c (thT c t)
 | 0, _ => PAt_fill (PAt_bk c _ (by unfold cfgOk at hc; omega))
 | t + 1, h => by
  have hl := thT_len hc t
  refine PAt_fill (PAt_snoc (PAt_snoc (PAt_th hc t (by omega)) ?_) ?_)
  ·rw [told6]; unfold threadS; rw [word_in (by omega)]; omega
  ·rw [told7, List.length_append, List.length_singleton]; unfold threadS; rw [word_in (by omega)]; omega
theorem PAt_lgI {c : Cfg} (hc : cfgOk c) {t : Nat} (ht : (t : Int) < c.th) (hb : PAt c (lgT c t)) : ∀ i : Nat, (i : Int) ≤ c.lo → PAt c (lgI (lgT c t) t i)
 | 0, _ => hb
 | i + 1, h => by
  refine PAt_snoc (PAt_lgI hc ht hb i (by omega)) ?_
  have hl := lgT_len hc t
  rw [told8, lgI_len]; unfold logS; rw [if_pos (by omega), word_in (by omega)]; omega
theorem PAt_lg {c : Cfg} (hc : cfgOk c) : ∀ t : Nat, (t : Int) ≤ c.th → PAt c (lgT c t)
 | 0, _ => PAt_th hc _ (by unfold cfgOk at hc; omega)
 | t + 1, h => PAt_fill (PAt_lgI hc (by omega) (PAt_lg hc t (by omega)) _ (by unfold cfgOk at hc; omega))
theorem PAt_sl {c : Cfg} (hc : cfgOk c) : ∀ s : Nat, (s : Int) ≤ c.sl → PAt c (slT c s)
 | 0, _ => PAt_lg hc _ (by unfold cfgOk at hc; omega)
 | s + 1, h => by
  have hl := slT_len hc s
  have hi := fun i => slI_len (slT c s) s i
  refine PAt_fill (PAt_snoc (PAt_snoc (PAt_snoc (PAt_snoc (PAt_snoc (PAt_sl hc s (by omega)) ?_) ?_) ?_) ?_) ?_)
  ·show slotS c s 0 = _; unfold slotS; rw [word_in (by omega)]; show _ = (((slI (slT c s) s 0).length : Nat) : Int); rw [hi]; omega
  ·show slotS c s 1 = _; unfold slotS; rw [word_in (by omega)]; show _ = (((slI (slT c s) s 1).length : Nat) : Int); rw [hi]; omega
  ·show slotS c s 2 = _; unfold slotS; rw [word_in (by omega)]; show _ = (((slI (slT c s) s 2).length : Nat) : Int); rw [hi]; omega
  ·show slotS c s 3 = _; unfold slotS; rw [word_in (by omega)]; show _ = (((slI (slT c s) s 3).length : Nat) : Int); rw [hi]; omega
  ·show slotS c s 4 = _; unfold slotS; rw [word_in (by omega)]; show _ = (((slI (slT c s) s 4).length : Nat) : Int); rw [hi]; omega
theorem PAt_lasting {c : Cfg} (hc : cfgOk c) : PAt c (lasting c) := PAt_sl hc _ (by unfold cfgOk at hc; omega)
/-! what there is has a word -/
theorem mem_fill {x : Nm} {l : List Nm} (h : x ∈ l) : x ∈ fillN l := List.mem_append_left _ h
theorem mem_bk : ∀ (j i : Nat), i < j → (⟨5, ((i : Nat) : Int), 0⟩ : Nm) ∈ bkT j
 | 0, i, h => by omega
 | j + 1, i, h => by
  by_cases hi : i = j
  ·subst hi; exact List.mem_append_right _ (by simp)
  ·exact List.mem_append_left _ (mem_bk j i (by omega))
theorem mem_th {c : Cfg} {x : Nm} : ∀ (t : Nat), (x ∈ fillN (bkT c.bu.toNat) ∨ ∃ i : Nat, i < t ∧ (x = ⟨6, (i : Int), 0⟩ ∨ x = ⟨7, (i : Int), 0⟩)) → x ∈ thT c t
 | 0, h => by rcases h with h | ⟨i, hi, _⟩ <;> first | exact h | omega
 | t + 1, h => by
  refine mem_fill ?_
  rcases h with h | ⟨i, hi, h⟩
  ·exact List.mem_append_left _ (List.mem_append_left _ (mem_th t (.inl h)))
  ·by_cases hit : i = t
   ·subst hit
    rcases h with rfl | rfl
    ·exact List.mem_append_left _ (List.mem_append_right _ (by simp))
    ·exact List.mem_append_right _ (by simp)
   ·exact List.mem_append_left _ (List.mem_append_left _ (mem_th t (.inr ⟨i, by omega, h⟩)))
theorem mem_lgI {base : List Nm} {t : Nat} {x : Nm} : ∀ (n : Nat), (x ∈ base ∨ ∃ i : Nat, i < n ∧ x = ⟨8, (t : Int), (i : Int)⟩) → x ∈ lgI base t n
 | 0, h => by rcases h with h | ⟨i, hi, _⟩ <;> first | exact h | omega
 | n + 1, h => by
  rcases h with h | ⟨i, hi, h⟩
  ·exact List.mem_append_left _ (mem_lgI n (.inl h))
  ·by_cases hit : i = n
   ·subst hit h; exact List.mem_append_right _ (by simp)
   ·exact List.mem_append_left _ (mem_lgI n (.inr ⟨i, by omega, h⟩))
theorem mem_lg {c : Cfg} {x : Nm} : ∀ (t : Nat), (x ∈ thT c c.th.toNat ∨ ∃ i j : Nat, i < t ∧ j < c.lo.toNat ∧ x = ⟨8, (i : Int), (j : Int)⟩) → x ∈ lgT c t
 | 0, h => by rcases h with h | ⟨i, _, hi, _⟩ <;> first | exact h | omega
 | t + 1, h => by
  refine mem_fill ?_
  rcases h with h | ⟨i, j, hi, hj, h⟩
  ·exact mem_lgI _ (.inl (mem_lg t (.inl h)))
  ·by_cases hit : i = t
   ·subst hit; exact mem_lgI _ (.inr ⟨j, hj, h⟩)
   ·exact mem_lgI _ (.inl (mem_lg t (.inr ⟨i, j, by omega, hj, h⟩)))
theorem mem_slI {base : List Nm} {s : Nat} {x : Nm} : ∀ (n : Nat), (x ∈ base ∨ ∃ i : Nat, i < n ∧ x = ⟨((9 + i : Nat) : Int), (s : Int), 0⟩) → x ∈ slI base s n
 | 0, h => by rcases h with h | ⟨i, hi, _⟩ <;> first | exact h | omega
 | n + 1, h => by
  rcases h with h | ⟨i, hi, h⟩
  ·exact List.mem_append_left _ (mem_slI n (.inl h))
  ·by_cases hit : i = n
   ·subst hit h; exact List.mem_append_right _ (by simp)
   ·exact List.mem_append_left _ (mem_slI n (.inr ⟨i, by omega, h⟩))
theorem mem_sl {c : Cfg} {x : Nm} : ∀ (s : Nat), (x ∈ lgT c c.th.toNat ∨ ∃ i j : Nat, i < s ∧ j < 5 ∧ x = ⟨((9 + j : Nat) : Int), (i : Int), 0⟩) → x ∈ slT c s
 | 0, h => by rcases h with h | ⟨i, _, hi, _⟩ <;> first | exact h | omega
 | s + 1, h => by
  refine mem_fill ?_
  rcases h with h | ⟨i, j, hi, hj, h⟩
  ·exact mem_slI _ (.inl (mem_sl s (.inl h)))
  ·by_cases hit : i = s
   ·subst hit; exact mem_slI _ (.inr ⟨j, hj, h⟩)
   ·exact mem_slI _ (.inl (mem_sl s (.inr ⟨i, j, by omega, hj, h⟩)))
theorem mem_ps : ∀ (t i : Nat), i < t → (⟨16, ((i : Nat) : Int), 0⟩ : Nm) ∈ psT t
 | 0, i, h => by omega
 | j + 1, i, h => by
  by_cases hi : i = j
  ·subst hi; exact List.mem_append_right _ (by simp)
  ·exact List.mem_append_left _ (mem_ps j i (by omega))
theorem mem_ps0 {x : Nm} (h : x ∈ psT 0) : ∀ t, x ∈ psT t
 | 0 => h
 | t + 1 => List.mem_append_left _ (mem_ps0 h t)
theorem mem_pf {c : Cfg} {x : Nm} : ∀ (s : Nat), (x ∈ psT c.th.toNat ∨ ∃ i : Nat, i < s ∧ x = ⟨17, (i : Int), 0⟩) → x ∈ pfT c s
 | 0, h => by rcases h with h | ⟨i, hi, _⟩ <;> first | exact h | omega
 | s + 1, h => by
  rcases h with h | ⟨i, hi, h⟩
  ·exact List.mem_append_left _ (mem_pf s (.inl h))
  ·by_cases hit : i = s
   ·subst hit h; exact List.mem_append_right _ (by simp)
   ·exact List.mem_append_left _ (mem_pf s (.inr ⟨i, by omega, h⟩))
def nmIs (x n : Nm) : Prop := x.k = n.k ∧ x.a = n.a ∧ x.b = n.b
theorem nmIs_eq {x n : Nm} (h : nmIs x n) : x = n := by
 obtain ⟨h1, h2, h3⟩ := h
 cases x; cases n; simp_all
theorem mem_at {x : Nm} {l : List Nm} (h : x ∈ l) : ∃ j, j < l.length ∧ nmIs (l.getD j nm0) x := by
 obtain ⟨j, hj, rfl⟩ := List.getElem_of_mem h
 exact ⟨j, hj, by rw [List.getD_eq_getElem?_getD, List.getElem?_eq_getElem hj]; exact ⟨rfl, rfl, rfl⟩⟩
theorem in_lasting_th {c : Cfg} {x : Nm} (h : x ∈ thT c c.th.toNat) : x ∈ lasting c := mem_sl _ (.inl (mem_lg _ (.inl h)))
/-- a name that is nowhere names none of those that there are: it is told the word behind all -/
theorem told_none {c : Cfg} (hc : cfgOk c) {n : Nm} (hk : 5 ≤ n.k ∧ n.k ≤ 17) (h14 : n.k = 14 ∨ n.k = 15 → n.a = 0) (hb : n.k ≠ 8 → n.b = 0) (h1 : n ∉ lasting c) (h2 : n ∉ passing c) : toldS c n = lns c * 8 := by
 have hcc := hc
 unfold cfgOk at hcc
 have nat : ∀ a : Int, 0 ≤ a → ∃ i : Nat, a = i := fun a h => ⟨a.toNat, by omega⟩
 obtain ⟨k, a, b⟩ := n
 simp only at hk h14 hb
 have : k = 5 ∨ k = 6 ∨ k = 7 ∨ k = 8 ∨ k = 9 ∨ k = 10 ∨ k = 11 ∨ k = 12 ∨ k = 13 ∨ k = 14 ∨ k = 15 ∨ k = 16 ∨ k = 17 := by omega
 rcases this with rfl | rfl | rfl | rfl | rfl | rfl | rfl | rfl | rfl | rfl | rfl | rfl | rfl
 ·obtain rfl := hb (by decide)
  rw [told5]; unfold bucketS
  refine if_neg fun hin => h1 ?_
  obtain ⟨i, rfl⟩ := nat a hin.1
  exact in_lasting_th (mem_th _ (.inl (mem_fill (mem_bk _ i (by omega)))))
 ·obtain rfl := hb (by decide)
  rw [told6]; unfold threadS wordS
  refine if_neg fun hin => h1 ?_
  obtain ⟨i, rfl⟩ := nat a hin.1
  exact in_lasting_th (mem_th _ (.inr ⟨i, by omega, .inl rfl⟩))
 ·obtain rfl := hb (by decide)
  rw [told7]; unfold threadS wordS
  refine if_neg fun hin => h1 ?_
  obtain ⟨i, rfl⟩ := nat a hin.1
  exact in_lasting_th (mem_th _ (.inr ⟨i, by omega, .inr rfl⟩))
 ·rw [told8]; unfold logS wordS
  by_cases hin : 0 ≤ b ∧ b < c.lo
  ·rw [if_pos hin]
   refine if_neg fun hin2 => h1 ?_
   obtain ⟨i, rfl⟩ := nat a hin2.1
   obtain ⟨j, rfl⟩ := nat b hin.1
   exact mem_sl _ (.inl (mem_lg _ (.inr ⟨i, j, by omega, by omega, rfl⟩)))
  ·exact if_neg hin
 all_goals obtain rfl := hb (by decide)
 ·rw [told9]; unfold slotS wordS
  refine if_neg fun hin => h1 ?_
  obtain ⟨i, rfl⟩ := nat a hin.1
  exact mem_sl _ (.inr ⟨i, 0, by omega, by omega, rfl⟩)
 ·rw [told10]; unfold slotS wordS
  refine if_neg fun hin => h1 ?_
  obtain ⟨i, rfl⟩ := nat a hin.1
  exact mem_sl _ (.inr ⟨i, 1, by omega, by omega, rfl⟩)
 ·rw [told11]; unfold slotS wordS
  refine if_neg fun hin => h1 ?_
  obtain ⟨i, rfl⟩ := nat a hin.1
  exact mem_sl _ (.inr ⟨i, 2, by omega, by omega, rfl⟩)
 ·rw [told12]; unfold slotS wordS
  refine if_neg fun hin => h1 ?_
  obtain ⟨i, rfl⟩ := nat a hin.1
  exact mem_sl _ (.inr ⟨i, 3, by omega, by omega, rfl⟩)
 ·rw [told13]; unfold slotS wordS
  refine if_neg fun hin => h1 ?_
  obtain ⟨i, rfl⟩ := nat a hin.1
  exact mem_sl _ (.inr ⟨i, 4, by omega, by omega, rfl⟩)
 ·obtain rfl := h14 (.inl rfl)
  exact absurd (mem_pf _ (.inl (mem_ps0 (by simp [psT]) _))) h2
 ·obtain rfl := h14 (.inr rfl)
  exact absurd (mem_pf _ (.inl (mem_ps0 (by simp [psT]) _))) h2
 ·rw [told16]; unfold annS
  refine if_neg fun hin => h2 ?_
  obtain ⟨i, rfl⟩ := nat a hin.1
  exact mem_pf _ (.inl (mem_ps _ i (by omega)))
 ·rw [told17]; unfold aftS
  refine if_neg fun hin => h2 ?_
  obtain ⟨i, rfl⟩ := nat a hin.1
  exact mem_pf _ (.inr ⟨i, by omega, rfl⟩)
theorem not_mem_of {x : Nm} {l : List Nm} (h : ∀ j, j < l.length → ¬ nmIs (l.getD j nm0) x) : x ∉ l := fun hm => by
 obtain ⟨j, hj, e⟩ := mem_at hm
 exact h j hj e
theorem told_last {c : Cfg} (hc : cfgOk c) {n : Nm} (hk : 1 < n.k) {j : Nat} (hj : j < (lasting c).length) (h : nmIs ((lasting c).getD j nm0) n) : toldS c n = j := by
 have e := nmIs_eq h
 have := PAt_lasting hc j hj (by rw [e]; exact hk)
 rwa [e] at this
end Go.Proofs.YtbfafebfkdbglaaGreat

/- Contracts: parts of a list, words and bytes. -/
namespace Go.Proofs.YtbfafebfkdbglaaGreat
open Go.RowKit
set_option linter.unusedVariables false
attribute [local irreducible] K.KW K.RW K.DW K.OW K.QR K.KC
/-- a line's cells -/
def cLine (l : List Int) : List Value := [.int .u64 (l.getD 0 0), .int .u64 (l.getD 1 0), .int .u64 (l.getD 2 0), .int .u64 (l.getD 3 0), .int .u64 (l.getD 4 0), .int .u64 (l.getD 5 0), .int .u64 (l.getD 6 0), .int .u64 (l.getD 7 0)]
/-- a list as a line -/
def ln8 (l : List Int) : List Int := [l.getD 0 0, l.getD 1 0, l.getD 2 0, l.getD 3 0, l.getD 4 0, l.getD 5 0, l.getD 6 0, l.getD 7 0]
abbrev RLn (w : World) (a : Option Addr) (l : List (List Int)) : Prop := K.RowE w a l.length 8 (fun i => cLine (l.getD i []))
theorem parts_end {n k sz m : Nat} (h : m = n - k * sz) (hk : k * sz ≤ n) (hm : m < sz) : k = n / sz := by
 refine (Nat.div_eq_of_lt_le (by omega) ?_).symm
 rw [Nat.succ_mul]; omega
theorem parts_lt {n k sz m : Nat} (h : m = n - k * sz) (hk : k * sz ≤ n) (hs : 0 < sz) (hm : sz ≤ m) : k < n / sz :=
 (Nat.le_div_iff_mul_le hs).2 (by rw [Nat.succ_mul]; omega)
end Go.Proofs.YtbfafebfkdbglaaGreat
