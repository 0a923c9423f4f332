import Derived.Test.YtnehocjmgnhhhaaFli
import Derived.Test.YtnehocjmgnhhhaaKf
import Derived.Test.YtnehocjmgnhhhaaKn
/- Witness: the sort: comparing two places. -/
namespace Go.Proofs.Ytnehocjmgnhhhaa
open Go.RowKit
set_option linter.unusedVariables false
attribute [local irreducible] K.KW K.RW K.DW K.OW K.QR K.KC
def keyL (L : List CallM) (p : Int) : Int := (L.getD p.toNat call0).wh
def valP (L : List CallM) (P : List Int) : Prop := ∀ i, i < P.length → 0 ≤ P.getD i 0 ∧ P.getD i 0 < (L.length : Int)
def stbP (L : List CallM) (P : List Int) : Prop := ∀ i j, i < j → j < P.length → keyL L (P.getD i 0) = keyL L (P.getD j 0) → P.getD i 0 < P.getD j 0
def srtP (L : List CallM) (P : List Int) (a b : Nat) : Prop := ∀ i j, a ≤ i → i < j → j < b → keyL L (P.getD i 0) ≤ keyL L (P.getD j 0)
theorem set_getD {P : List Int} {i k : Nat} {x : Int} (hi : i < P.length) : (P.set i x).getD k 0 = if i = k then x else P.getD k 0 := by
 rw [List.getD_eq_getElem?_getD, List.getElem?_set]
 split
 ·first | rfl | (rw [if_pos hi]; rfl)
 ·rfl
def swpP (P : List Int) (j : Nat) : List Int := (P.set j (P.getD (j - 1) 0)).set (j - 1) (P.getD j 0)
theorem swpP_len {P : List Int} {j : Nat} : (swpP P j).length = P.length := by simp [swpP]
theorem swpP_get {P : List Int} {j k : Nat} (hj : j < P.length) (h0 : 0 < j) : (swpP P j).getD k 0 = if k = j then P.getD (j - 1) 0 else if k = j - 1 then P.getD j 0 else P.getD k 0 := by
 unfold swpP
 rw [set_getD (by rw [List.length_set]; omega), set_getD hj]
 by_cases h1 : k = j
 ·subst h1; rw [if_neg (by omega), if_pos rfl, if_pos rfl]
 ·by_cases h2 : k = j - 1
  ·subst h2; rw [if_pos rfl, if_neg h1, if_pos rfl]
  ·rw [if_neg (by omega), if_neg (by omega), if_neg h1, if_neg h2]
theorem swpP_val {L : List CallM} {P : List Int} {j : Nat} (h : valP L P) (hj : j < P.length) (h0 : 0 < j) : valP L (swpP P j) := fun i hi => by
 rw [swpP_len] at hi
 rw [swpP_get hj h0]
 split
 ·exact h _ (by omega)
 ·split
  ·exact h _ hj
  ·exact h _ hi
theorem swpP_stb {L : List CallM} {P : List Int} {j : Nat} (h : stbP L P) (hj : j < P.length) (h0 : 0 < j) (hk : keyL L (P.getD j 0) < keyL L (P.getD (j - 1) 0)) : stbP L (swpP P j) := fun p q hpq hq => by
 rw [swpP_len] at hq
 rw [swpP_get hj h0, swpP_get hj h0]
 by_cases a1 : p = j
 ·rw [if_pos a1, if_neg (by omega), if_neg (by omega)]
  exact fun he => h _ _ (by omega) hq he
 ·by_cases a2 : p = j - 1
  ·rw [if_neg a1, if_pos a2]
   by_cases a3 : q = j
   ·rw [if_pos a3]; intro he; omega
   ·rw [if_neg a3, if_neg (by omega)]
    exact fun he => h _ _ (by omega) hq he
  ·rw [if_neg a1, if_neg a2]
   by_cases a3 : q = j
   ·rw [if_pos a3]
    exact fun he => h _ _ (by omega) (by omega) he
   ·rw [if_neg a3]
    by_cases a4 : q = j - 1
    ·rw [if_pos a4]
     exact fun he => h _ _ (by omega) hj he
    ·rw [if_neg a4]
     exact fun he => h _ _ hpq hq he
def insP (L : List CallM) (P : List Int) (a i j : Nat) : Prop := ∀ p q, a ≤ p → p < q → q ≤ i → q ≠ j → keyL L (P.getD p 0) ≤ keyL L (P.getD q 0)
theorem insP_0 {L : List CallM} {P : List Int} {a i : Nat} (h : srtP L P a i) : insP L P a i i := fun p q h1 h2 h3 h4 => h p q h1 h2 (by omega)
theorem insP_swp {L : List CallM} {P : List Int} {a i j : Nat} (h : insP L P a i j) (hi : i < P.length) (hj : j ≤ i) (ha : a < j) (hk : keyL L (P.getD j 0) < keyL L (P.getD (j - 1) 0)) : insP L (swpP P j) a i (j - 1) := fun p q h1 h2 h3 h4 => by
 rw [swpP_get (by omega) (by omega), swpP_get (by omega) (by omega)]
 by_cases a1 : p = j
 ·rw [if_pos a1, if_neg (by omega), if_neg (by omega)]
  exact h _ _ (by omega) (by omega) h3 (by omega)
 ·by_cases a2 : p = j - 1
  ·rw [if_neg a1, if_pos a2]
   by_cases a3 : q = j
   ·rw [if_pos a3]; omega
   ·rw [if_neg a3, if_neg h4]
    exact h _ _ (by omega) (by omega) h3 a3
  ·rw [if_neg a1, if_neg a2]
   by_cases a3 : q = j
   ·rw [if_pos a3]
    exact h _ _ h1 (by omega) (by omega) (by omega)
   ·rw [if_neg a3, if_neg h4]
    exact h _ _ h1 h2 h3 a3
theorem insP_end {L : List CallM} {P : List Int} {a i j : Nat} (h : insP L P a i j) (hj : j ≤ i) (ha : a ≤ j) (hx : j = a ∨ ¬ keyL L (P.getD j 0) < keyL L (P.getD (j - 1) 0)) : srtP L P a (i + 1) := fun p q h1 h2 h3 => by
 by_cases hq : q = j
 ·subst hq
  rcases hx with hx | hx
  ·omega
  ·by_cases hp : p = q - 1
   ·subst hp; omega
   ·have := h p (q - 1) h1 (by omega) (by omega) (by omega); omega
 ·exact h p q h1 h2 (by omega) hq
def keepP (L : List CallM) (P Q : List Int) (a b : Nat) : Prop := Q.length = P.length ∧ valP L Q ∧ stbP L Q ∧ (∀ i, i < a ∨ b ≤ i → Q.getD i 0 = P.getD i 0) ∧
 (∀ i, a ≤ i → i < b → ∃ j, a ≤ j ∧ j < b ∧ Q.getD i 0 = P.getD j 0) ∧ (∀ i, a ≤ i → i < b → ∃ j, a ≤ j ∧ j < b ∧ Q.getD j 0 = P.getD i 0)
theorem keepP.refl {L : List CallM} {P : List Int} {a b : Nat} (hv : valP L P) (hs : stbP L P) : keepP L P P a b := ⟨rfl, hv, hs, fun _ _ => rfl, fun i h1 h2 => ⟨i, h1, h2, rfl⟩, fun i h1 h2 => ⟨i, h1, h2, rfl⟩⟩
theorem keepP.mono {L : List CallM} {P Q : List Int} {a b a' b' : Nat} (h : keepP L P Q a' b') (ha : a ≤ a') (hb : b' ≤ b) : keepP L P Q a b := by
 obtain ⟨h1, h2, h3, h4, h5, h6⟩ := h
 refine ⟨h1, h2, h3, fun i hi => h4 i (by omega), fun i hi hj => ?_, fun i hi hj => ?_⟩
 ·by_cases hc : a' ≤ i ∧ i < b'
  ·obtain ⟨j, k1, k2, k3⟩ := h5 i hc.1 hc.2; exact ⟨j, by omega, by omega, k3⟩
  ·exact ⟨i, hi, hj, h4 i (by omega)⟩
 ·by_cases hc : a' ≤ i ∧ i < b'
  ·obtain ⟨j, k1, k2, k3⟩ := h6 i hc.1 hc.2; exact ⟨j, by omega, by omega, k3⟩
  ·exact ⟨i, hi, hj, h4 i (by omega)⟩
theorem keepP.trans {L : List CallM} {P Q R : List Int} {a b : Nat} (h : keepP L P Q a b) (k : keepP L Q R a b) : keepP L P R a b := by
 obtain ⟨h1, h2, h3, h4, h5, h6⟩ := h
 obtain ⟨k1, k2, k3, k4, k5, k6⟩ := k
 refine ⟨k1.trans h1, k2, k3, fun i hi => (k4 i hi).trans (h4 i hi), fun i hi hj => ?_, fun i hi hj => ?_⟩
 ·obtain ⟨j, a1, a2, a3⟩ := k5 i hi hj
  obtain ⟨m, b1, b2, b3⟩ := h5 j a1 a2
  exact ⟨m, b1, b2, a3.trans b3⟩
 ·obtain ⟨j, a1, a2, a3⟩ := h6 i hi hj
  obtain ⟨m, b1, b2, b3⟩ := k6 j a1 a2
  exact ⟨m, b1, b2, b3.trans a3⟩
theorem keepP.swp1 {L : List CallM} {P : List Int} {j : Nat} (hv : valP L P) (hs : stbP L P) (hj : j < P.length) (h0 : 0 < j) (hk : keyL L (P.getD j 0) < keyL L (P.getD (j - 1) 0)) : keepP L P (swpP P j) (j - 1) (j + 1) := by
 refine ⟨swpP_len, swpP_val hv hj h0, swpP_stb hs hj h0 hk, fun i hi => ?_, fun i h1 h2 => ?_, fun i h1 h2 => ?_⟩
 ·rw [swpP_get hj h0, if_neg (by omega), if_neg (by omega)]
 ·by_cases hc : i = j
  ·exact ⟨j - 1, by omega, by omega, by rw [swpP_get hj h0, if_pos hc]⟩
  ·exact ⟨j, by omega, by omega, by rw [swpP_get hj h0, if_neg hc, if_pos (by omega)]⟩
 ·by_cases hc : i = j
  ·exact ⟨j - 1, by omega, by omega, by rw [swpP_get hj h0, if_neg (by omega), if_pos rfl, hc]⟩
  ·obtain rfl : i = j - 1 := by omega
   exact ⟨j, by omega, by omega, by rw [swpP_get hj h0, if_pos rfl]⟩
theorem keepP.swp {L : List CallM} {P Q : List Int} {a b j : Nat} (h : keepP L P Q a b) (hj : j < b) (hb : b ≤ P.length) (ha : a < j) (hk : keyL L (Q.getD j 0) < keyL L (Q.getD (j - 1) 0)) : keepP L P (swpP Q j) a b :=
 h.trans ((keepP.swp1 h.2.1 h.2.2.1 (by rw [h.1]; omega) (by omega) hk).mono (by omega) (by omega))
end Go.Proofs.Ytnehocjmgnhhhaa

/- A region that draws its order, in which a row is read and then written: what is read is asked for only as long as none of the writing operations is listed. -/
namespace Go.Proofs.Ytnehocjmgnhhhaa
open Go.RowKit
set_option linter.unusedVariables false
namespace K
def befM (ops : Array Oper) (M : List Nat) (i : Nat) : Bool := M.all fun m => (upL ops 8 (aft ops m)).any (Nat.beq · i)
def someM (M : List Nat) (listed : Array Bool) : Bool := M.any fun m => listed.getD m false
def wpAnyM (P : Program) (ops : Array Oper) (Q : Exit → Act → World → Prop) (S : World → Prop) (M : List Nat) : Nat → Array Bool → Act → World → Prop
  | 0, listed, a, w => Region.ready .any ops listed = [] ∧ Q .normal a w
  | fuel + 1, listed, a, w =>
    (Region.ready .any ops listed = [] → Q .normal a w) ∧
    ∀ i ∈ Region.ready .any ops listed, wpOp P ops Q i (fun a' w' => (S w' ∨ i ∈ M ∨ someM M listed = true) ∧ wpAnyM P ops Q S M fuel (listed.setIfInBounds i true) a' w') a w
section
variable {P : Program} {ops : Array Oper} {QA : Exit → Act → World → Prop} {S : World → Prop} {M : List Nat}
theorem wpAny_of_M : ∀ (fuel : Nat) (listed : Array Bool) (a : Act) (w : World), wpAnyM P ops QA S M fuel listed a w → wpAny P .any ops QA fuel listed a w
  | 0, _, _, _, h => h
  | fuel + 1, _, _, _, h => ⟨h.1, fun i hi => wpOp_mono (fun a' w' h' => wpAny_of_M fuel _ a' w' h'.2) (h.2 i hi)⟩
theorem someM_set {listed : Array Bool} {j : Nat} (h : someM M listed = true) : someM M (listed.setIfInBounds j true) = true := by
  obtain ⟨m, hm, h⟩ := List.any_eq_true.1 h
  exact List.any_eq_true.2 ⟨m, hm, getD_set_true h⟩
theorem someM_ne {listed : Array Bool} {i : Nat} (hi : i ∉ M) (h : someM M (listed.setIfInBounds i true) = true) : someM M listed = true := by
  obtain ⟨m, hm, h⟩ := List.any_eq_true.1 h
  refine List.any_eq_true.2 ⟨m, hm, ?_⟩
  have hne : ¬ i = m := fun e => hi (by rw [e]; exact hm)
  rw [getD_set_ne false hne] at h
  exact h
theorem someM_in {listed : Array Bool} {j : Nat} (hj : j ∈ M) (hl : listed.getD j true = false) : someM M (listed.setIfInBounds j true) = true := by
  refine List.any_eq_true.2 ⟨j, hj, ?_⟩
  rcases Nat.lt_or_ge j listed.size with h | h
  · simp [Array.getD, h]
  · simp [Array.getD, Nat.not_lt.2 h] at hl
theorem befM_no {listed : Array Bool} {i : Nat} (hb : befM ops M i = true) (hcl : shutL ops listed = true) (hi : listed.getD i true = false) : someM M listed = false := by
  cases hs : someM M listed with
  | false => rfl
  | true =>
    exfalso
    obtain ⟨m, hm, h⟩ := List.any_eq_true.1 hs
    obtain ⟨q, hq, h2⟩ := List.any_eq_true.1 (List.all_eq_true.1 hb m hm)
    have h3 := upL_listed hcl 8 _ (aft_listed hcl h) q hq
    rw [Nat.eq_of_beq_eq_true h2] at h3
    rcases Nat.lt_or_ge i listed.size with h' | h'
    · simp [Array.getD, h'] at hi h3; rw [hi] at h3; cases h3
    · simp [Array.getD, Nat.not_lt.2 h'] at hi
theorem wpAnyM_first {S' : World → Prop} {i : Nat} {oi : Oper} {v : Value} (hi : ops[i]? = some oi) (hsel : ∀ (j : Nat) (o : Oper) cs b, ops[j]? = some o → o.op ≠ .select cs b)
    (hQ : ∀ c a w, QA (.panic c) (a.put oi.dst v) w → QA (.panic c) a w) (hM : i ∉ M) (hS' : ∀ listed w, shutL ops listed = true → listed.getD i true = false → (S w ∨ someM M listed = true) → S' w) :
    ∀ (fuel : Nat) (listed : Array Bool) (a : Act) (w : World),
      (∀ j oj, ops[j]? = some oj → j ≠ i → listed.getD j true = false → (∀ e ∈ oj.after, Region.binds .any e = true → e.on ≠ i) → oi.apart ops oj = true) →
      shutL ops listed = true → i ∈ Region.ready .any ops listed → YieldsIf P ops S' oi v a → (S w ∨ someM M listed = true) →
      wpAnyM P ops QA S M fuel (listed.setIfInBounds i true) (a.put oi.dst v) w → wpAnyM P ops QA S M (fuel + 1) listed a w := by
  intro fuel
  induction fuel with
  | zero =>
    intro listed a w _ hcl hr hy hS H
    refine ⟨fun h => (by rw [h] at hr; cases hr), fun j hj => ?_⟩
    by_cases hji : j = i
    · subst hji; exact hy.wpOp hi (hS' _ _ hcl (mem_ready.1 hr).1 hS) ⟨hS.imp id .inr, H⟩
    · have := ready_mono hj hji
      rw [H.1] at this
      cases this
  | succ fuel ih =>
    intro listed a w hfree hcl hr hy hS H
    refine ⟨fun h => (by rw [h] at hr; cases hr), fun j hj => ?_⟩
    by_cases hji : j = i
    · subst hji; exact hy.wpOp hi (hS' _ _ hcl (mem_ready.1 hr).1 hS) ⟨hS.imp id .inr, H⟩
    · have h1 := H.2 j (ready_mono hj hji)
      obtain ⟨hjun, oj, hoj, hall⟩ := mem_ready.1 hj
      have hnot : ∀ e ∈ oj.after, Region.binds .any e = true → e.on ≠ i := fun e he hb heq => by
        have h1 := hall e he hb
        have h0 := (mem_ready.1 hr).1
        rw [heq] at h1
        rcases Nat.lt_or_ge i listed.size with h' | h'
        · simp [h'] at h0 h1; rw [h0] at h1; cases h1
        · simp [Array.getElem?_eq_none h'] at h1
      have h2 := wpOp_putIf hoj (hfree j oj hoj hji hjun hnot) (fun cs b => hsel i oi cs b hi) (fun cs b => hsel j oj cs b hoj) hQ hy h1
      have hfree' : ∀ k ok, ops[k]? = some ok → k ≠ i → (listed.setIfInBounds j true).getD k true = false →
          (∀ e ∈ ok.after, Region.binds .any e = true → e.on ≠ i) → oi.apart ops ok = true := fun k ok hk hki hun hno => by
        refine hfree k ok hk hki ?_ hno
        by_cases hjk : j = k
        · subst hjk; exact hjun
        · rw [getD_set_ne true hjk] at hun; exact hun
      refine wpOp_mono (fun a' w' h3 => ?_) h2
      have hc : S w' ∨ j ∈ M ∨ someM M listed = true := h3.2.1.imp id (Or.imp id (someM_ne hM))
      refine ⟨hc, ih (listed.setIfInBounds j true) a' w' hfree' (shut_set hcl hj) (ready_mono hr (Ne.symm hji)) h3.1 (hc.imp id fun h => h.elim (fun h => someM_in h hjun) someM_set) ?_⟩
      rw [Array.setIfInBounds_comm _ _ hji]
      exact h3.2.2
end
section
variable {P : Program} {n : Nat} {Q : Exit → Fr → World → Prop} {F : Fr} {w w0 : World} {ops : Array Oper} {S : World → Prop} {M : List Nat} {fuel : Nat} {listed : Array Bool} {ls : List Cs}
def DWM (P : Program) (n : Nat) (ops : Array Oper) (S : World → Prop) (M : List Nat) (fuel : Nat) (listed : Array Bool) (Q : Exit → Fr → World → Prop) (F : Fr) (w : World) : Prop :=
  wpAnyM P ops (lq n Q) S M fuel listed (fr n F) w
theorem KW.gdrawnM {ρ : Option Nat} {id : Nat} {l : List Oper} (is : List Nat) (M : List Nat) (hS : Sat w0 ls w) (hm : P.follows .mixedOrders = true)
    (h : ∀ w1, Sat w0 ls w1 → DWM P n l.toArray (Sat w0 (pick is ls)) M l.length (Array.replicate l.length false) Q F w1) (hd : ndf l = true := by rfl) : KW ρ P n (.region id l.toArray true) Q F w :=
  wpIn_region_any hm (wpAnyIn_of (by simpa using hd) _ _ _ _ (wpAny_of_M _ _ _ _ (by have := h w.drew (hS.no ((Chg.refl w).drew)); unfold DWM at this; simpa using this)))
theorem DWM.q (i : Nat) {oi : Oper} {v : Value} {d : Option Nat} (hs : Region.noSelect ops = true) (hi : ops[i]? = some oi) (hd : oi.dst = d) (hc : canTake ops listed i = true) (hM : M.contains i = false) (hb : befM ops M i = true)
    (hg : gd ops n F oi = true) (hq : ∀ w', S w' → QR P n F oi v w') (hS : S w) (h : DWM P n ops S M fuel (listed.setIfInBounds i true) Q (updo F d v) w) : DWM P n ops S M (fuel + 1) listed Q F w := by
  subst hd
  obtain ⟨hg, hok⟩ := gd_spec hg
  simp only [canTake, Bool.and_eq_true] at hc
  refine wpAnyM_first (S' := S) hi (Region.noSelect_spec hs) (lq_panic_put n Q _ _) (by simpa using hM) (fun l w hcl hl h => h.resolve_right (by rw [befM_no hb hcl hl]; simp)) _ _ _ _ (Region.free_spec hi hc.1.1) hc.2 (by simpa using hc.1.2) (.inl ⟨by rw [wanted_fr]; exact hg, fun w' hw' => by rw [eval_fr]; exact hq w' hw'⟩) (.inl hS) ?_
  rw [put_fr _ _ _ _ hok]; exact h
theorem DWM.k (i : Nat) {oi : Oper} {v : Value} {d : Option Nat} (hs : Region.noSelect ops = true) (hi : ops[i]? = some oi) (hd : oi.dst = d) (hc : canTake ops listed i = true) (hM : M.contains i = false)
    (hg : gd ops n F oi = true) (hq : ∀ w', QR P n F oi v w') (hS : S w ∨ someM M listed = true) (h : DWM P n ops S M fuel (listed.setIfInBounds i true) Q (updo F d v) w) : DWM P n ops S M (fuel + 1) listed Q F w := by
  subst hd
  obtain ⟨hg, hok⟩ := gd_spec hg
  simp only [canTake, Bool.and_eq_true] at hc
  refine wpAnyM_first (S' := fun _ => True) hi (Region.noSelect_spec hs) (lq_panic_put n Q _ _) (by simpa using hM) (fun _ _ _ _ _ => trivial) _ _ _ _ (Region.free_spec hi hc.1.1) hc.2 (by simpa using hc.1.2) (.inl ⟨by rw [wanted_fr]; exact hg, fun w' _ => by rw [eval_fr]; exact hq w'⟩) hS ?_
  rw [put_fr _ _ _ _ hok]; exact h
theorem DWM.l (i : Nat) {oi : Oper} (hi : ops[i]? = some oi) (hr : Region.ready .any ops listed = [i]) (hM : M.contains i = true) (hg : gd ops n F oi = true)
    (h : OW P n F oi w (fun G w' => DWM P n ops S M fuel (listed.setIfInBounds i true) Q G w')) : DWM P n ops S M (fuel + 1) listed Q F w := by
  obtain ⟨hg, hok⟩ := gd_spec hg
  refine ⟨fun h0 => absurd (hr ▸ h0) (by simp), hr ▸ ?_⟩
  intro j hj
  simp only [List.mem_singleton] at hj
  subst hj
  unfold wpOp
  rw [hi]
  simp only []
  rw [wanted_fr, if_pos hg]
  refine .inl (Oper.wp_mono ?_ (h hok _))
  rintro a w' ⟨G, rfl, h⟩
  exact ⟨.inr (.inl (by simpa using hM)), h⟩
theorem DWM.done (hr : Region.ready .any ops listed = []) (h : Q .normal F w) : DWM P n ops S M fuel listed Q F w := by
  unfold DWM
  cases fuel with
  | zero => exact ⟨hr, lq_normal h⟩
  | succ f => exact ⟨fun _ => lq_normal h, by rw [hr]; simp⟩
end
end K
end Go.Proofs.Ytnehocjmgnhhhaa

/- Witness: the sort: comparing, insertion. -/
namespace Go.Proofs.Ytnehocjmgnhhhaa
open Go.RowKit
set_option linter.unusedVariables false
attribute [local irreducible] K.KW K.RW K.DW K.OW K.QR K.KC K.DWM
set_option maxHeartbeats 1000000 in
set_option maxRecDepth 100000 in
theorem nanI_ok (w0 : World) (x : Int) :
  K.GC Try.prog w0 42 #[K.iv x] [] (fun v post => post = [] ∧ v = .bool false) := by
 refine K.GC.mk (n := 6) Try.func42 rfl rfl [K.iv x] rfl rfl ?_
 intro fr w hS
 replace hS : K.Sat w0 [fr] w := hS
 refine K.s (K.g (K.q [.bool false] (K.z (K.t (K.s (K.g (K.q [K.iv x, K.iv x] ?_)))))))
 refine K.xn (x : Int) (x : Int) (rfl) ?_
 refine K.q [.bool false] (K.z (K.t (K.r ?_)))
 refine ⟨.inr rfl, rfl, (.bool false), K.res1 rfl rfl, [], ?_, hS.pick [0]⟩
 exact ⟨rfl, rfl⟩
set_option maxHeartbeats 1000000 in
set_option maxRecDepth 100000 in
theorem cmpG_ok (w0 : World) (x y : Int) :
  K.GC Try.prog w0 25 #[K.iv x, K.iv y] [] (fun v post => post = [] ∧ v = K.iv (cmpI x y)) := by
 refine K.GC.mk (n := 20) Try.func25 rfl rfl [K.iv x, K.iv y] rfl rfl ?_
 intro fr w hS
 replace hS : K.Sat w0 [fr] w := hS
 refine K.s (K.g (K.q [K.iv 0] (K.z (K.t (K.s (K.g (K.q [K.iv x] ?_)))))))
 refine K.l (K.OW.gcall hS [] [0] [K.iv x] (nanI_ok _ x) ?_)
 clear hS; rintro _ _ w ⟨rfl, rfl⟩ hS
 replace hS : K.Sat w0 [fr] w := hS
 refine K.q [.bool false] (K.z (K.t (K.s (K.g (K.q [K.iv y] ?_)))))
 refine K.l (K.OW.gcall hS [] [0] [K.iv y] (nanI_ok _ y) ?_)
 clear hS; rintro _ _ w ⟨rfl, rfl⟩ hS
 replace hS : K.Sat w0 [fr] w := hS
 refine K.q [.bool false] (K.z (K.t (K.s (K.s (K.g (K.q [.bool false] (K.z (K.t (K.f (K.k (K.t (K.s (K.s (K.g ?_))))))))))))))
 refine K.q [.bool false] (K.z (K.t (K.f (K.k (K.t (K.s (K.s (K.g (K.q [K.iv x, K.iv y] ?_)))))))))
 by_cases h_1 : (x : Int) < (y : Int)
 ·
  refine K.y ((x : Int) < (y : Int)) h_1 ?_
  refine K.z (K.t (K.h (K.s (K.g (K.q [K.iv (-1)] (K.z (K.t (K.r (K.u ?_)))))))))
  refine ⟨.inr rfl, rfl, (K.iv (-1)), K.res1 rfl rfl, [], ?_, hS.pick [0]⟩
  exact ⟨rfl, congrArg (Value.int .i64) (by unfold cmpI; (repeat' split) <;> omega)⟩
 ·
  refine K.x ((x : Int) < (y : Int)) h_1 ?_
  refine K.z (K.t (K.f (K.k (K.t (K.s (K.s (K.g (K.q [K.iv x, K.iv y] ?_))))))))
  by_cases h_2 : (x : Int) > (y : Int)
  ·
   refine K.y ((x : Int) > (y : Int)) h_2 ?_
   refine K.z (K.t (K.h (K.s (K.g (K.q [K.iv 1] (K.z (K.t (K.r (K.u ?_)))))))))
   refine ⟨.inr rfl, rfl, (K.iv 1), K.res1 rfl rfl, [], ?_, hS.pick [0]⟩
   exact ⟨rfl, congrArg (Value.int .i64) (by unfold cmpI; (repeat' split) <;> omega)⟩
  ·
   refine K.x ((x : Int) > (y : Int)) h_2 ?_
   refine K.z (K.t (K.f (K.k (K.t (K.s (K.g (K.q [K.iv 0] (K.z (K.t (K.r ?_))))))))))
   refine ⟨.inr rfl, rfl, (K.iv 0), K.res1 rfl rfl, [], ?_, hS.pick [0]⟩
   exact ⟨rfl, congrArg (Value.int .i64) (by unfold cmpI; (repeat' split) <;> omega)⟩
set_option maxHeartbeats 1000000 in
set_option maxRecDepth 100000 in
theorem order1_ok (w0 : World) (bc : Nat) (gc : K.Cs) (a : Option Addr) (cap : Nat) (L : List CallM) (hm : L.length ≤ 1000000) (hgc : gc = [K.pt bc 22 [.slice a L.length cap]]) (gx : K.Cs) (hx : ∀ w, K.Sat w0 [gx] w → K.RowE w a L.length 11 (fun i => cCall (L.getD i call0))) (x y : Int) (h1 : 0 ≤ x ∧ x < (L.length : Int)) (h2 : 0 ≤ y ∧ y < (L.length : Int)) :
  K.GC Try.prog w0 24 #[K.iv x, K.iv y, K.pa bc] [gc, gx] (fun v post => post = [gc, gx] ∧ v = K.iv (cmpI (keyL L x) (keyL L y))) := by
 refine K.GC.mk (n := 17) Try.func24 rfl rfl [K.iv x, K.iv y, K.pa bc] rfl rfl ?_
 intro fr w hS
 replace hS : K.Sat w0 [gc, gx, fr] w := hS
 refine K.s (K.g (K.q [K.iv 0] (K.z (K.t (K.s ?_)))))
 obtain ⟨b_1, of_2, rfl, _⟩ := (hx _ (hS.pick [1])).at_ (by omega)
 refine K.KW.gdrawn [0, 1] hS (by kernel_rfl) ?_
 clear hS; intro w hS
 refine K.o_ 0 rfl (.slice (some ⟨b_1, of_2, none⟩) L.length cap) (fun w hS => ((hS.blk 0 rfl hgc).cell rfl)) (hS.pick [0, 1]) ?_
 refine K.p 1 rfl (K.iv x) (hS.pick [0, 1]) ?_
 refine K.m 2 rfl (fun w hS => K.QR.ix (of_2 + x.toNat * 11) 11 rfl rfl rfl Try.underlying22 (by kernel_rfl) (by omega) (by first | (simp; done) | omega | (simp; omega))) (hS.pick [0, 1]) ?_
 refine K.p 3 rfl (.pointer (some ⟨b_1, of_2 + x.toNat * 11 + 8, none⟩)) (hS.pick [0, 1]) ?_
 refine K.o_ 4 rfl (K.iv ((L.getD x.toNat call0).wh)) (fun w hS => ((hx _ (hS.pick [1])).ld x.toNat (by omega) 8 _ rfl)) (hS.pick [0, 1]) ?_
 refine K.o_ 5 rfl (.slice (some ⟨b_1, of_2, none⟩) L.length cap) (fun w hS => ((hS.blk 0 rfl hgc).cell rfl)) (hS.pick [0, 1]) ?_
 refine K.b 6 rfl (K.iv y) (hS.pick [0, 1]) ?_
 refine K.c 7 rfl (K.QR.ix (of_2 + y.toNat * 11) 11 rfl rfl rfl Try.underlying22 (by kernel_rfl) (by omega) (by first | (simp; done) | omega | (simp; omega))) (hS.pick [0, 1]) ?_
 refine K.b 8 rfl (.pointer (some ⟨b_1, of_2 + y.toNat * 11 + 8, none⟩)) (hS.pick [0, 1]) ?_
 refine K.c 9 rfl (K.QR.ld1 (v := K.iv ((L.getD y.toNat call0).wh)) rfl rfl (by kernel_rfl) ((hx _ (hS.pick [1])).ld y.toNat (by omega) 8 _ rfl)) (hS.pick [0, 1]) ?_
 refine K.DW.l 10 rfl (by kernel_rfl) rfl (K.OW.gcall hS [] [0, 1, 2] [K.iv ((L.getD x.toNat call0).wh), K.iv ((L.getD y.toNat call0).wh)] (cmpG_ok _ ((L.getD x.toNat call0).wh) ((L.getD y.toNat call0).wh)) ?_)
 clear hS; rintro _ _ w ⟨rfl, rfl⟩ hS
 replace hS : K.Sat w0 [gc, gx, fr] w := hS
 refine ⟨.inl (hS.pick [0, 1]), ?_⟩
 refine K.b 11 rfl (K.iv (cmpI ((L.getD x.toNat call0).wh) ((L.getD y.toNat call0).wh))) (hS.pick [0, 1]) ?_
 refine K.DW.done (by kernel_rfl) ?_
 refine K.t (K.r ?_)
 refine ⟨.inr rfl, rfl, (K.iv (cmpI ((L.getD x.toNat call0).wh) ((L.getD y.toNat call0).wh))), K.res1 rfl rfl, [gc, gx], ?_, hS.pick [0, 1, 2]⟩
 exact ⟨rfl, rfl⟩
end Go.Proofs.Ytnehocjmgnhhhaa
