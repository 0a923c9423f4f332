import Derived.Test.YtnehocjmgnhhhaaFso5
/- Witness: the sort: merging, plain. -/
namespace Go.Proofs.Ytnehocjmgnhhhaa
open Go.RowKit
set_option linter.unusedVariables false
attribute [local irreducible] K.KW K.RW K.DW K.OW K.QR K.KC
def srchP (pr : Nat → Prop) (lo hi i j : Nat) : Prop := lo ≤ i ∧ i ≤ j ∧ j ≤ hi ∧ (∀ h, lo ≤ h → h < i → pr h) ∧ (∀ h, j ≤ h → h < hi → ¬ pr h)
theorem srchP.nil {pr : Nat → Prop} {lo hi : Nat} (h : lo ≤ hi) : srchP pr lo hi lo hi := ⟨Nat.le_refl _, h, Nat.le_refl _, fun _ _ _ => by omega, fun _ _ _ => by omega⟩
theorem srchP.yes {pr : Nat → Prop} {lo hi i j : Nat} (h : srchP pr lo hi i j) (hd : ∀ x y, lo ≤ x → x ≤ y → y < hi → pr y → pr x) (hij : i < j) (hp : pr ((i + j) / 2)) : srchP pr lo hi ((i + j) / 2 + 1) j := by
 obtain ⟨h1, h2, h3, h4, h5⟩ := h
 exact ⟨by omega, by omega, h3, fun x hx hx2 => hd x _ hx (by omega) (by omega) hp, h5⟩
theorem srchP.no {pr : Nat → Prop} {lo hi i j : Nat} (h : srchP pr lo hi i j) (hd : ∀ x y, lo ≤ x → x ≤ y → y < hi → pr y → pr x) (hij : i < j) (hp : ¬ pr ((i + j) / 2)) : srchP pr lo hi i ((i + j) / 2) := by
 obtain ⟨h1, h2, h3, h4, h5⟩ := h
 exact ⟨h1, by omega, by omega, h4, fun x hx hx2 hpx => hp (hd _ x (by omega) hx hx2 hpx)⟩
theorem srtP.le {L : List CallM} {P : List Int} {a b x y : Nat} (h : srtP L P a b) (ha : a ≤ x) (hxy : x ≤ y) (hb : y < b) : keyL L (P.getD x 0) ≤ keyL L (P.getD y 0) := by
 rcases Nat.lt_or_ge x y with hl | hl
 ·exact h x y ha hl hb
 ·obtain rfl : x = y := by omega
  omega
def prA (L : List CallM) (P : List Int) (a : Nat) : Nat → Prop := fun h => cmpI (keyL L (P.getD h 0)) (keyL L (P.getD a 0)) < 0
def prB (L : List CallM) (P : List Int) (m : Nat) : Nat → Prop := fun h => ¬ cmpI (keyL L (P.getD m 0)) (keyL L (P.getD h 0)) < 0
def prC (L : List CallM) (P : List Int) (p : Nat) : Nat → Prop := fun c => ¬ cmpI (keyL L (P.getD (p - c) 0)) (keyL L (P.getD c 0)) < 0
theorem prA_down {L : List CallM} {P : List Int} {a m b : Nat} (h : srtP L P m b) : ∀ x y, m ≤ x → x ≤ y → y < b → prA L P a y → prA L P a x := fun x y h1 h2 h3 h4 => by
 have := h.le h1 h2 h3
 have h5 := cmpI_lt.1 h4
 exact cmpI_lt.2 (by omega)
theorem prB_down {L : List CallM} {P : List Int} {a m : Nat} (h : srtP L P a m) : ∀ x y, a ≤ x → x ≤ y → y < m → prB L P m y → prB L P m x := fun x y h1 h2 h3 h4 h5 => by
 have := h.le h1 h2 h3
 have h5 := cmpI_lt.1 h5
 exact h4 (cmpI_lt.2 (by omega))
def bndC (a m b md s0 r0 : Nat) : Prop := (md < m ∧ s0 = md + m - b ∧ r0 = md) ∨ (m ≤ md ∧ s0 = a ∧ r0 = m)
theorem prC_down {L : List CallM} {P : List Int} {a m b md s0 r0 : Nat} (ha : srtP L P a m) (hb : srtP L P m b) (hm : md = (a + b) / 2) (h1 : a < m) (h2 : m < b) (hB : bndC a m b md s0 r0) : ∀ x y, s0 ≤ x → x ≤ y → y < r0 → prC L P (md + m - 1) y → prC L P (md + m - 1) x := fun x y k1 k2 k3 k4 k5 => by
 have e1 := ha.le (x := x) (y := y) (by rcases hB with hB | hB <;> omega) k2 (by rcases hB with hB | hB <;> omega)
 have e2 := hb.le (x := md + m - 1 - y) (y := md + m - 1 - x) (by rcases hB with hB | hB <;> omega) (by omega) (by rcases hB with hB | hB <;> omega)
 have h5 := cmpI_lt.1 k5
 exact k4 (cmpI_lt.2 (by omega))
def bubR (L : List CallM) (P Q : List Int) (a k : Nat) : Prop := keepP L P Q a (k + 1) ∧ Q.getD k 0 = P.getD a 0 ∧ ∀ q, a ≤ q → q < k → Q.getD q 0 = P.getD (q + 1) 0
theorem bubR.nil {L : List CallM} {P : List Int} {a : Nat} (hv : valP L P) (hs : stbP L P) : bubR L P P a a := ⟨keepP.refl hv hs, rfl, fun q h1 h2 => by omega⟩
theorem swpP_up {Q : List Int} {k : Nat} : (Q.set k (Q.getD (k + 1) 0)).set (k + 1) (Q.getD k 0) = swpP Q (k + 1) := by
 unfold swpP
 rw [Nat.add_sub_cancel, List.set_comm _ _ (by omega)]
theorem bubR.step {L : List CallM} {P Q : List Int} {a k : Nat} (h : bubR L P Q a k) (hk : k + 1 < P.length) (ha : a ≤ k) (hl : keyL L (P.getD (k + 1) 0) < keyL L (P.getD a 0)) : bubR L P ((Q.set k (Q.getD (k + 1) 0)).set (k + 1) (Q.getD k 0)) a (k + 1) := by
 obtain ⟨h1, h2, h3⟩ := h
 have e1 : Q.getD (k + 1) 0 = P.getD (k + 1) 0 := h1.2.2.2.1 _ (by omega)
 rw [swpP_up]
 refine ⟨(h1.mono (Nat.le_refl a) (show k + 1 ≤ k + 1 + 1 by omega)).trans ((keepP.swp1 h1.2.1 h1.2.2.1 (by rw [h1.1]; omega) (by omega) (by rw [Nat.add_sub_cancel, e1, h2]; exact hl)).mono (by omega) (by omega)), ?_, fun q k1 k2 => ?_⟩
 ·rw [swpP_get (by rw [h1.1]; omega) (by omega), if_pos rfl, Nat.add_sub_cancel, h2]
 ·rw [swpP_get (by rw [h1.1]; omega) (by omega), if_neg (by omega)]
  by_cases hq : q = k
  ·subst hq; rw [if_pos (by omega), e1]
  ·rw [if_neg (by omega)]; exact h3 q k1 (by omega)
theorem bubR.fin {L : List CallM} {P Q : List Int} {a b i k : Nat} (h : bubR L P Q a k) (hs : srtP L P (a + 1) b) (hb : b ≤ P.length) (hf : srchP (prA L P a) (a + 1) b i i) (hk : k + 1 = i) (hka : a ≤ k) : keepP L P Q a b ∧ srtP L Q a b := by
 obtain ⟨h1, h2, h3⟩ := h
 obtain ⟨f1, f2, f3, f4, f5⟩ := hf
 refine ⟨h1.mono (Nat.le_refl _) (by omega), fun p q k1 k2 k3 => ?_⟩
 have g : ∀ x, a ≤ x → Q.getD x 0 = if x < k then P.getD (x + 1) 0 else if x = k then P.getD a 0 else P.getD x 0 := fun x hx => by
  by_cases c1 : x < k
  ·rw [if_pos c1]; exact h3 x hx c1
  ·rw [if_neg c1]
   by_cases c2 : x = k
   ·rw [if_pos c2, c2]; exact h2
   ·rw [if_neg c2]; exact h1.2.2.2.1 _ (by omega)
 have lo : ∀ x, a + 1 ≤ x → x < i → keyL L (P.getD x 0) < keyL L (P.getD a 0) := fun x e1 e2 => cmpI_lt.1 (f4 x e1 e2)
 have hi : ∀ x, i ≤ x → x < b → keyL L (P.getD a 0) ≤ keyL L (P.getD x 0) := fun x e1 e2 => by
  have := f5 x e1 e2
  have : ¬ keyL L (P.getD x 0) < keyL L (P.getD a 0) := fun hh => this (cmpI_lt.2 hh)
  omega
 rw [g p k1, g q (by omega)]
 by_cases c1 : p < k
 ·rw [if_pos c1]
  by_cases c2 : q < k
  ·rw [if_pos c2]; exact hs _ _ (by omega) (by omega) (by omega)
  ·rw [if_neg c2]
   by_cases c3 : q = k
   ·rw [if_pos c3]; have := lo (p + 1) (by omega) (by omega); omega
   ·rw [if_neg c3]; exact hs _ _ (by omega) (by omega) (by omega)
 ·rw [if_neg c1, if_neg (show ¬ q < k by omega), if_neg (show ¬ q = k by omega)]
  by_cases c3 : p = k
  ·rw [if_pos c3]; exact hi q (by omega) k3
  ·rw [if_neg c3]; exact hs _ _ (by omega) k2 k3
def bubL (L : List CallM) (P Q : List Int) (m k : Nat) : Prop := keepP L P Q k (m + 1) ∧ Q.getD k 0 = P.getD m 0 ∧ ∀ q, k < q → q ≤ m → Q.getD q 0 = P.getD (q - 1) 0
theorem bubL.nil {L : List CallM} {P : List Int} {m : Nat} (hv : valP L P) (hs : stbP L P) : bubL L P P m m := ⟨keepP.refl hv hs, rfl, fun q h1 h2 => by omega⟩
theorem bubL.step {L : List CallM} {P Q : List Int} {m k : Nat} (h : bubL L P Q m k) (hm : m < P.length) (hk : k ≤ m) (h0 : 0 < k) (hl : keyL L (P.getD m 0) < keyL L (P.getD (k - 1) 0)) : bubL L P (swpP Q k) m (k - 1) := by
 obtain ⟨h1, h2, h3⟩ := h
 have e1 : Q.getD (k - 1) 0 = P.getD (k - 1) 0 := h1.2.2.2.1 _ (by omega)
 refine ⟨(h1.mono (show k - 1 ≤ k by omega) (Nat.le_refl _)).trans ((keepP.swp1 h1.2.1 h1.2.2.1 (by rw [h1.1]; omega) (by omega) (by rw [e1, h2]; exact hl)).mono (by omega) (by omega)), ?_, fun q k1 k2 => ?_⟩
 ·rw [swpP_get (by rw [h1.1]; omega) (by omega), if_neg (by omega), if_pos rfl, h2]
 ·rw [swpP_get (by rw [h1.1]; omega) (by omega)]
  by_cases hq : q = k
  ·subst hq; rw [if_pos rfl, e1]
  ·rw [if_neg hq, if_neg (by omega)]; exact h3 q (by omega) k2
theorem bubL.fin {L : List CallM} {P Q : List Int} {a m i : Nat} (h : bubL L P Q m i) (hs : srtP L P a m) (hf : srchP (prB L P m) a m i i) : keepP L P Q a (m + 1) ∧ srtP L Q a (m + 1) := by
 obtain ⟨h1, h2, h3⟩ := h
 obtain ⟨f1, f2, f3, f4, f5⟩ := hf
 refine ⟨h1.mono (by omega) (by omega), fun p q k1 k2 k3 => ?_⟩
 have g : ∀ x, x ≤ m → Q.getD x 0 = if x < i then P.getD x 0 else if x = i then P.getD m 0 else P.getD (x - 1) 0 := fun x hx => by
  by_cases c1 : x < i
  ·rw [if_pos c1]; exact h1.2.2.2.1 _ (by omega)
  ·rw [if_neg c1]
   by_cases c2 : x = i
   ·rw [if_pos c2, c2]; exact h2
   ·rw [if_neg c2]; exact h3 x (by omega) hx
 have lo : ∀ x, a ≤ x → x < i → keyL L (P.getD x 0) ≤ keyL L (P.getD m 0) := fun x e1 e2 => by
  have := f4 x e1 e2
  have : ¬ keyL L (P.getD m 0) < keyL L (P.getD x 0) := fun hh => this (cmpI_lt.2 hh)
  omega
 have hi : ∀ x, i ≤ x → x < m → keyL L (P.getD m 0) < keyL L (P.getD x 0) := fun x e1 e2 => by
  have := f5 x e1 e2
  exact cmpI_lt.1 (Classical.byContradiction this)
 rw [g p (by omega), g q (by omega)]
 by_cases c1 : p < i
 ·rw [if_pos c1]
  by_cases c2 : q < i
  ·rw [if_pos c2]; exact hs _ _ k1 k2 (by omega)
  ·rw [if_neg c2]
   by_cases c3 : q = i
   ·rw [if_pos c3]; exact lo p k1 c1
   ·rw [if_neg c3]
    by_cases c4 : p = q - 1
    ·omega
    ·exact hs _ _ k1 (by omega) (by omega)
 ·rw [if_neg c1, if_neg (show ¬ q < i by omega), if_neg (show ¬ q = i by omega)]
  by_cases c3 : p = i
  ·rw [if_pos c3]; have := hi (q - 1) (by omega) (by omega); omega
  ·rw [if_neg c3]; exact hs _ _ (by omega) (by omega) (by omega)
theorem rotR.nil1 {P : List Int} {m b : Nat} : rotR P P m m b := ⟨rfl, fun t => by unfold rotF; (repeat' split) <;> first | omega | (congr 1; omega)⟩
theorem rotR.nil2 {P : List Int} {a m : Nat} : rotR P P a m m := ⟨rfl, fun t => by unfold rotF; (repeat' split) <;> first | omega | (congr 1; omega)⟩
def crsP (L : List CallM) (Q : List Int) (a md b : Nat) : Prop := ∀ x y, a ≤ x → x < md → md ≤ y → y < b → keyL L (Q.getD x 0) ≤ keyL L (Q.getD y 0)
theorem symmid {L : List CallM} {P Q : List Int} {a m b md s0 r0 st : Nat} (hv : valP L P) (hst : stbP L P) (h1 : srtP L P a m) (h2 : srtP L P m b) (ha : a < m) (hm : m < b) (hb : b ≤ P.length) (hmd : md = (a + b) / 2) (hB : bndC a m b md s0 r0)
  (hf : srchP (prC L P (md + m - 1)) s0 r0 st st) (hr : rotR P Q st m (md + m - st)) : keepP L P Q a b ∧ srtP L Q a st ∧ srtP L Q st md ∧ srtP L Q md (md + m - st) ∧ srtP L Q (md + m - st) b ∧ crsP L Q a md b := by
 obtain ⟨f1, f2, f3, f4, f5⟩ := hf
 obtain ⟨r1, r2⟩ := hr
 have b1 : a ≤ st := by rcases hB with hB | hB <;> omega
 have b2 : st ≤ m := by rcases hB with hB | hB <;> omega
 have b3 : st ≤ md := by rcases hB with hB | hB <;> omega
 have b4 : md + m - st ≤ b := by rcases hB with hB | hB <;> omega
 have b5 : m ≤ md + m - st := by omega
 have b6 : a ≤ md ∧ md < b := by omega
 have g : ∀ t, Q.getD t 0 = if st ≤ t ∧ t < md then P.getD (t + (m - st)) 0 else if md ≤ t ∧ t < md + m - st then P.getD (t - (md - st)) 0 else P.getD t 0 := fun t => by
  rw [r2 t]; unfold rotF
  (repeat' split) <;> first | omega | (congr 1; omega)
 have hlt : ∀ x y, st ≤ x → x < m → m ≤ y → y < md + m - st → keyL L (P.getD y 0) < keyL L (P.getD x 0) := fun x y e1 e2 e3 e4 => by
  have hs : st < r0 := by rcases hB with hB | hB <;> omega
  have := f5 st (Nat.le_refl _) hs
  have := cmpI_lt.1 (Classical.byContradiction this)
  have i1 := h1.le b1 e1 e2
  have i2 := h2.le e3 (show y ≤ md + m - 1 - st by omega) (by omega)
  omega
 have hle : ∀ x y, a ≤ x → x < st → md + m - st ≤ y → y < b → keyL L (P.getD x 0) ≤ keyL L (P.getD y 0) := fun x y e1 e2 e3 e4 => by
  have hs : s0 < st := by rcases hB with hB | hB <;> omega
  have := f4 (st - 1) (by omega) (by omega)
  have : ¬ keyL L (P.getD (md + m - 1 - (st - 1)) 0) < keyL L (P.getD (st - 1) 0) := fun hh => this (cmpI_lt.2 hh)
  have i1 := h1.le e1 (show x ≤ st - 1 by omega) (by omega)
  have i2 := h2.le (show m ≤ md + m - 1 - (st - 1) by omega) (show md + m - 1 - (st - 1) ≤ y by omega) e4
  omega
 have q1 : ∀ t, a ≤ t → t < st → Q.getD t 0 = P.getD t 0 := fun t e1 e2 => by rw [g t, if_neg (by omega), if_neg (by omega)]
 have q2 : ∀ t, st ≤ t → t < md → Q.getD t 0 = P.getD (t + (m - st)) 0 := fun t e1 e2 => by rw [g t, if_pos ⟨e1, e2⟩]
 have q3 : ∀ t, md ≤ t → t < md + m - st → Q.getD t 0 = P.getD (t - (md - st)) 0 := fun t e1 e2 => by rw [g t, if_neg (by omega), if_pos ⟨e1, e2⟩]
 have q4 : ∀ t, md + m - st ≤ t → Q.getD t 0 = P.getD t 0 := fun t e1 => by rw [g t, if_neg (by omega), if_neg (by omega)]
 have q0 : ∀ t, t < st → Q.getD t 0 = P.getD t 0 := fun t e1 => by rw [g t, if_neg (by omega), if_neg (by omega)]
 have s1 : srtP L Q a st := fun p q e1 e2 e3 => by rw [q1 p e1 (by omega), q1 q (by omega) e3]; exact h1 p q e1 e2 (by omega)
 have s2 : srtP L Q st md := fun p q e1 e2 e3 => by rw [q2 p e1 (by omega), q2 q (by omega) e3]; exact h2 _ _ (by omega) (by omega) (by omega)
 have s3 : srtP L Q md (md + m - st) := fun p q e1 e2 e3 => by rw [q3 p e1 (by omega), q3 q (by omega) e3]; exact h1 _ _ (by omega) (by omega) (by omega)
 have s4 : srtP L Q (md + m - st) b := fun p q e1 e2 e3 => by rw [q4 p e1, q4 q (by omega)]; exact h2 _ _ (by omega) (by omega) (by omega)
 have hc : crsP L Q a md b := fun x y e1 e2 e3 e4 => by
  by_cases c1 : x < st
  ·rw [q1 x e1 c1]
   by_cases c2 : y < md + m - st
   ·rw [q3 y e3 c2]; exact h1.le e1 (by omega) (by omega)
   ·rw [q4 y (by omega)]; exact hle x y e1 c1 (by omega) e4
  ·rw [q2 x (by omega) e2]
   by_cases c2 : y < md + m - st
   ·rw [q3 y e3 c2]; have := hlt (y - (md - st)) (x + (m - st)) (by omega) (by omega) (by omega) (by omega); omega
   ·rw [q4 y (by omega)]; exact h2.le (by omega) (by omega) e4
 refine ⟨⟨r1, ?_, ?_, ?_, ?_, ?_⟩, s1, s2, s3, s4, hc⟩
 ·intro i hi
  rw [r1] at hi
  rw [g i]
  split
  ·exact hv _ (by omega)
  ·split
   ·exact hv _ (by omega)
   ·exact hv _ hi
 ·intro p q e1 e2
  rw [r1] at e2
  by_cases p1 : p < st
  ·rw [q0 p p1]
   by_cases c1 : q < st
   ·rw [q0 q c1]; exact hst p q e1 e2
   ·by_cases c2 : q < md
    ·rw [q2 q (by omega) c2]; exact hst _ _ (by omega) (by omega)
    ·by_cases c3 : q < md + m - st
     ·rw [q3 q (by omega) c3]; exact hst _ _ (by omega) (by omega)
     ·rw [q4 q (by omega)]; exact hst _ _ e1 e2
  ·by_cases p2 : p < md
   ·rw [q2 p (by omega) p2]
    by_cases c2 : q < md
    ·rw [q2 q (by omega) c2]; exact hst _ _ (by omega) (by omega)
    ·by_cases c3 : q < md + m - st
     ·rw [q3 q (by omega) c3]; intro he
      have := hlt (q - (md - st)) (p + (m - st)) (by omega) (by omega) (by omega) (by omega); omega
     ·rw [q4 q (by omega)]; exact hst _ _ (by omega) (by omega)
   ·by_cases p3 : p < md + m - st
    ·rw [q3 p (by omega) p3]
     by_cases c3 : q < md + m - st
     ·rw [q3 q (by omega) c3]; exact hst _ _ (by omega) (by omega)
     ·rw [q4 q (by omega)]; exact hst _ _ (by omega) (by omega)
    ·rw [q4 p (by omega), q4 q (by omega)]; exact hst _ _ e1 e2
 ·intro i hi
  by_cases c : i < st
  ·exact q0 i c
  ·exact q4 i (by omega)
 ·intro i e1 e2
  by_cases c1 : i < st
  ·exact ⟨i, e1, e2, q0 i c1⟩
  ·by_cases c2 : i < md
   ·exact ⟨_, by omega, by omega, q2 i (by omega) c2⟩
   ·by_cases c3 : i < md + m - st
    ·exact ⟨_, by omega, by omega, q3 i (by omega) c3⟩
    ·exact ⟨i, e1, e2, q4 i (by omega)⟩
 ·intro i e1 e2
  by_cases c1 : i < st
  ·exact ⟨i, e1, e2, q0 i c1⟩
  ·by_cases c2 : i < m
   ·exact ⟨i + (md - st), by omega, by omega, by rw [q3 _ (by omega) (by omega)]; congr 1; omega⟩
   ·by_cases c3 : i < md + m - st
    ·exact ⟨i - (m - st), by omega, by omega, by rw [q2 _ (by omega) (by omega)]; congr 1; omega⟩
    ·exact ⟨i, e1, e2, q4 i (by omega)⟩
theorem srtP.cat {L : List CallM} {Q : List Int} {a m b : Nat} (h : a = m ∨ m = b) (h1 : srtP L Q a m) (h2 : srtP L Q m b) : srtP L Q a b := by
 rcases h with h | h
 ·subst h; exact h2
 ·subst h; exact h1
theorem srtP.keep {L : List CallM} {P Q : List Int} {a b x y : Nat} (h : srtP L P x y) (hk : keepP L P Q a b) (hd : y ≤ a ∨ b ≤ x) : srtP L Q x y := fun p q e1 e2 e3 => by
 rw [hk.2.2.2.1 p (by omega), hk.2.2.2.1 q (by omega)]; exact h p q e1 e2 e3
theorem symfin {L : List CallM} {Q R S : List Int} {a md b : Nat} (h1 : a ≤ md) (h2 : md ≤ b) (hc : crsP L Q a md b) (k1 : keepP L Q R a md) (s1 : srtP L R a md) (k2 : keepP L R S md b) (s2 : srtP L S md b) : keepP L Q S a b ∧ srtP L S a b := by
 refine ⟨(k1.mono (Nat.le_refl _) h2).trans (k2.mono h1 (Nat.le_refl _)), fun p q e1 e2 e3 => ?_⟩
 by_cases c1 : q < md
 ·rw [k2.2.2.2.1 p (by omega), k2.2.2.2.1 q (by omega)]; exact s1 p q e1 e2 c1
 ·by_cases c2 : p < md
  ·rw [k2.2.2.2.1 p (by omega)]
   obtain ⟨x, x1, x2, x3⟩ := k1.2.2.2.2.1 p e1 c2
   obtain ⟨y, y1, y2, y3⟩ := k2.2.2.2.2.1 q (by omega) e3
   rw [x3, y3, k1.2.2.2.1 y (by omega)]
   exact hc x y x1 x2 y1 y2
  ·exact s2 p q (by omega) e2 e3
end Go.Proofs.Ytnehocjmgnhhhaa
