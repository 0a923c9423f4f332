/- Layer 10: while a thread is in, the epoch goes on by 1 at most: the plain law. -/
import Derived.Test.YtajkickofkeemaaFl10c
namespace Go.Proofs.Ytajkickofkeemaa
open Go.RowKit
set_option linter.unusedVariables false
attribute [local irreducible] K.KW K.RW K.DW K.OW K.QR K.KC

structure HandE where
 x : MachE
 inn : Bool
 at_ : Int
/-- a thread's announcement -/
def annW (n : Nat) (M : MemM) (k : Nat) : Int := (M.peek n (-3 - (k : Int))).getD 0
def MOk (hs : List HandE) (e : Int) (k : Nat) (inn : Bool) : MachE → Prop
 | .no => True
 | .en S => S.done = false → S.t = k ∧ inn = false ∧ (S.told = true → S.now ≤ e)
 | .le S => S.done = false → S.t = k
 | .ad S => S.done = false → S.pc = 1 → S.now ≤ e ∧ ∀ (k' : Nat) h', hs[k']? = some h' → h'.inn = true → h'.at_ + 1 ≤ S.now → S.next ≤ k'
theorem MOk_new (hs : List HandE) (e : Int) (k : Nat) (inn : Bool) (kd : Int) (h : kd = 0 → inn = false) : MOk hs e k inn (newE kd k) := by
 unfold newE
 split
 ·rename_i h0; exact fun _ => ⟨rfl, h h0, fun h => by cases h⟩
 split
 ·exact fun _ => rfl
 ·exact fun _ (h : (0 : Int) = 1) => absurd h (by decide)
theorem MOk_set {hs : List HandE} {e e' : Int} {k k1 : Nat} {i1 : Bool} {x : MachE} {h2 : HandE} (h : MOk hs e k1 i1 x) (he : e ≤ e')
  (hsub : ∀ now : Int, now ≤ e → h2.inn = true → h2.at_ + 1 ≤ now → ∃ h0, hs[k]? = some h0 ∧ h0.inn = true ∧ h0.at_ + 1 ≤ now) : MOk (hs.set k h2) e' k1 i1 x := by
 cases x with
 | no => trivial
 | en S => exact fun hd => ⟨(h hd).1, (h hd).2.1, fun ht => by have := (h hd).2.2 ht; omega⟩
 | le S => exact h
 | ad S =>
  intro hd hp
  obtain ⟨h1, h3⟩ := h hd hp
  refine ⟨by omega, fun k' h' hk' hi ha => ?_⟩
  rw [List.getElem?_set] at hk'
  by_cases hkk : k = k'
  ·subst hkk
   rw [if_pos rfl] at hk'
   split at hk'
   ·cases hk'
    obtain ⟨h0, e0, e1, e2⟩ := hsub _ h1 hi ha
    exact h3 k h0 e0 e1 e2
   ·cases hk'
  ·rw [if_neg hkk] at hk'
   exact h3 k' h' hk' hi ha
structure HInv (c : Cfg) (n : Nat) (hs : List HandE) (M : MemM) (e : Int) (j : Nat) : Prop where
 len : hs.length = c.th.toNat
 good : M.good
 pl : (M.pass.length : Int) = 2 + c.th + c.sl
 ep : M.peek n (-1) = some e
 eb : 0 ≤ e ∧ e ≤ j
 mg : ∀ (k : Nat) h, hs[k]? = some h → h.x.good
 inn : ∀ (k : Nat) h, hs[k]? = some h → (h.inn = true ↔ annW n M k ≠ 0)
 at_ : ∀ (k : Nat) h, hs[k]? = some h → h.inn = true → annW n M k ≤ h.at_ + 1 ∧ h.at_ ≤ e ∧ e ≤ h.at_ + 1
 ok : ∀ (k : Nat) h, hs[k]? = some h → MOk hs e k h.inn h.x
/-- the hands behind a step: the announcements of all others are as they were -/
theorem HInv.put {c : Cfg} {n : Nat} {hs : List HandE} {M M' : MemM} {e e' : Int} {j k : Nat} {h0 h2 : HandE} (I : HInv c n hs M e j) (hk : hs[k]? = some h0) (hg : M'.good) (hpl : M'.pass.length = M.pass.length) (he : M'.peek n (-1) = some e') (hb : e ≤ e' ∧ e' ≤ e + 1) (hx : h2.x.good)
  (ho : ∀ (k' : Nat), k' ≠ k → annW n M' k' = annW n M k') (hi : h2.inn = true ↔ annW n M' k ≠ 0) (ha : h2.inn = true → annW n M' k ≤ h2.at_ + 1 ∧ h2.at_ ≤ e' ∧ e' ≤ h2.at_ + 1)
  (hE : e' = e ∨ (e' = e + 1 ∧ ∀ (k' : Nat) h', hs[k']? = some h' → h'.inn = true → e + 1 ≤ h'.at_ + 1))
  (hsub : ∀ now : Int, now ≤ e → h2.inn = true → h2.at_ + 1 ≤ now → ∃ h0, hs[k]? = some h0 ∧ h0.inn = true ∧ h0.at_ + 1 ≤ now) (hm : MOk (hs.set k h2) e' k h2.inn h2.x) : HInv c n (hs.set k h2) M' e' (j + 1) := by
 have hget : ∀ (k' : Nat) h', (hs.set k h2)[k']? = some h' → (k' = k ∧ h' = h2) ∨ (k' ≠ k ∧ hs[k']? = some h') := by
  intro k' h' h
  rw [List.getElem?_set] at h
  by_cases hkk : k = k'
  ·subst hkk
   rw [if_pos rfl] at h
   split at h
   ·cases h; exact .inl ⟨rfl, rfl⟩
   ·cases h
  ·rw [if_neg hkk] at h; exact .inr ⟨fun e => hkk e.symm, h⟩
 have heb := I.eb
 refine ⟨by rw [List.length_set]; exact I.len, hg, by rw [hpl]; exact I.pl, he, by omega, ?_, ?_, ?_, ?_⟩
 ·intro k' h' h
  rcases hget k' h' h with ⟨rfl, rfl⟩ | ⟨_, h⟩
  ·exact hx
  ·exact I.mg k' h' h
 ·intro k' h' h
  rcases hget k' h' h with ⟨rfl, rfl⟩ | ⟨hn, h⟩
  ·exact hi
  ·rw [ho k' hn]; exact I.inn k' h' h
 ·intro k' h' h hin
  rcases hget k' h' h with ⟨rfl, rfl⟩ | ⟨hn, h⟩
  ·exact ha hin
  ·rw [ho k' hn]
   obtain ⟨h1, h2, h3⟩ := I.at_ k' h' h hin
   refine ⟨h1, by omega, ?_⟩
   rcases hE with hE | ⟨hE, h4⟩
   ·omega
   ·have := h4 k' h' h hin; omega
 ·intro k' h' h
  rcases hget k' h' h with ⟨rfl, rfl⟩ | ⟨hn, h⟩
  ·exact hm
  ·exact MOk_set (I.ok k' h' h) hb.1 hsub
theorem ann_at {c : Cfg} {k : Nat} (hk : (k : Int) < c.th) : annS c (k : Int) = -3 - (k : Int) := by unfold annS; rw [if_pos (by omega)]
theorem accL_pass {M : MemM} {n : Nat} {th i : Int} : (M.accL n th i).1.pass.length = M.pass.length := rfl
theorem HInv.next {c : Cfg} {n : Nat} {hs : List HandE} {M : MemM} {e : Int} {j k : Nat} {x x0 : MachE} {inn : Bool} {at_ : Int} (hth : 1 ≤ c.th ∧ c.sl ≥ 0) (I : HInv c n hs M e j) (hj : j ≤ 300) (hk : hs[k]? = some ⟨x, inn, at_⟩) (hc : cfgOk c) (hx0 : x0.good) (hnd : x0.done = false) (hok : MOk hs e k inn x0) :
  ∃ e', (stepE c n x0 M).2.peek n (-1) = some e' ∧ ∀ in' : Bool, (in' = true ↔ annW n (stepE c n x0 M).2 k ≠ 0) → HInv c n (hs.set k ⟨(stepE c n x0 M).1, in', if in' = true ∧ inn = false then e' else at_⟩) (stepE c n x0 M).2 e' (j + 1) := by
 obtain ⟨hxg, hMg⟩ := stepE_good hc (n := n) hx0 I.good
 have heb := I.eb
 have hpl := I.pl
 have hkl : k < hs.length := (List.getElem?_eq_some_iff.1 hk).1
 have hkt : (k : Int) < c.th := by have := I.len; omega
 have hin := I.inn k _ hk
 have hat := I.at_ k _ hk
 simp only at hin hat
 -- where the announcements are as they were
 have same : ∀ (e' : Int) (M' : MemM) (x' : MachE), M'.good → M'.pass.length = M.pass.length → M'.peek n (-1) = some e' → (e ≤ e' ∧ e' ≤ e + 1) → x'.good → (∀ k' : Nat, annW n M' k' = annW n M k') →
   (e' = e ∨ (e' = e + 1 ∧ ∀ (k' : Nat) h', hs[k']? = some h' → h'.inn = true → e + 1 ≤ h'.at_ + 1)) →
   (∀ h2 : HandE, h2.inn = inn → h2.at_ = at_ → h2.x = x' → MOk (hs.set k h2) e' k inn x') →
   ∀ in' : Bool, (in' = true ↔ annW n M' k ≠ 0) → HInv c n (hs.set k ⟨x', in', if in' = true ∧ inn = false then e' else at_⟩) M' e' (j + 1) := by
  intro e' M' x' h1 h2 h3 h4 h5 h6 h7 h8 in' h9
  obtain rfl : in' = inn := by
   rw [h6 k] at h9
   have : (in' = true) = (inn = true) := propext (h9.trans hin.symm)
   cases in' <;> cases inn <;> simp_all
  have h10 : (if in' = true ∧ in' = false then e' else at_) = at_ := by cases in' <;> simp
  rw [h10]
  refine I.put hk h1 h2 h3 h4 h5 (fun k' _ => h6 k') h9 ?_ h7 (fun now hn hi ha => ⟨_, hk, hi, ha⟩) (h8 _ rfl rfl rfl)
  intro hi
  obtain ⟨g1, g2, g3⟩ := hat hi
  refine ⟨by rw [h6]; exact g1, by show at_ ≤ e'; omega, ?_⟩
  show e' ≤ at_ + 1
  rcases h7 with h7 | ⟨h7, h11⟩
  ·omega
  ·have := h11 k _ hk hi; simp only at this; omega
 cases x0 with
 | no => cases hnd
 | en S =>
  have hd : S.done = false := hnd
  obtain ⟨ht, hinn, hnow⟩ := hok hd
  by_cases htold : S.told = true
  ·
   have hn := hnow htold
   have hSn : 0 ≤ S.now := hx0.2.1
   have e1 : stepE c n (.en S) M = (.en ⟨S.t, true, S.now, S.told⟩, (M.accS n S.t (-3 - (k : Int)) (S.now + 1)).1) := by
    show (MachE.en (entStep c n S M).1, (entStep c n S M).2) = _
    have : entStep c n S M = (⟨S.t, true, S.now, S.told⟩, (M.accS n S.t (annS c S.t) (inc64 S.now)).1) := by unfold entStep; rw [if_neg (by rw [hd]; decide), if_pos htold]
    rw [this, ht, ann_at hkt, show inc64 S.now = S.now + 1 by unfold inc64; omega]
   rw [e1] at hxg hMg ⊢
   have pk : ∀ i : Int, (M.accS n S.t (-3 - (k : Int)) (S.now + 1)).1.peek n i = if i = -3 - (k : Int) then some (S.now + 1) else M.peek n i := fun i => by
    rw [accS_peek (by omega)]
    by_cases hi : i = -3 - (k : Int)
    ·rw [if_pos ⟨hi, by omega⟩, if_pos hi]
    ·rw [if_neg (fun h => hi h.1), if_neg hi]
   refine ⟨e, by rw [pk, if_neg (by omega)]; exact I.ep, fun in' h9 => ?_⟩
   have ak : annW n (M.accS n S.t (-3 - (k : Int)) (S.now + 1)).1 k = S.now + 1 := by unfold annW; rw [pk, if_pos rfl]; rfl
   obtain rfl : in' = true := h9.2 (by show annW n (M.accS n S.t (-3 - (k : Int)) (S.now + 1)).1 k ≠ 0; rw [ak]; omega)
   rw [if_pos ⟨rfl, hinn⟩]
   refine I.put hk hMg accS_pass (by rw [pk, if_neg (by omega)]; exact I.ep) (by omega) hxg (fun k' hk' => by unfold annW; rw [pk, if_neg (by omega)]) h9 (fun _ => ?_) (.inl rfl) (fun now h1 _ h3 => absurd h3 (by show ¬ e + 1 ≤ now; omega)) (fun h => by cases h)
   rw [ak]; show S.now + 1 ≤ e + 1 ∧ e ≤ e ∧ e ≤ e + 1; omega
  ·
   have e1 : stepE c n (.en S) M = (.en ⟨S.t, S.done, e, true⟩, (M.accL n S.t (-1)).1) := by
    show (MachE.en (entStep c n S M).1, (entStep c n S M).2) = _
    have : entStep c n S M = (⟨S.t, S.done, (M.accL n S.t (-1)).2.old, true⟩, (M.accL n S.t (-1)).1) := by unfold entStep; rw [if_neg (by rw [hd]; decide), if_neg htold]
    rw [this, show (M.accL n S.t (-1)).2.old = e by show (M.peek n (-1)).getD 0 = e; rw [I.ep]; rfl]
   rw [e1] at hxg hMg ⊢
   exact ⟨e, I.ep, same e _ _ hMg rfl I.ep (by omega) hxg (fun _ => rfl) (.inl rfl) (fun h2 _ _ _ => fun _ => ⟨ht, hinn, fun _ => Int.le_refl _⟩)⟩
 | le S =>
  have hd : S.done = false := hnd
  have ht := hok hd
  have e1 : stepE c n (.le S) M = (.le ⟨S.t, true⟩, (M.accS n S.t (-3 - (k : Int)) 0).1) := by
   show (MachE.le (leaStep c n S M).1, (leaStep c n S M).2) = _
   have : leaStep c n S M = (⟨S.t, true⟩, (M.accS n S.t (annS c S.t) 0).1) := by unfold leaStep; rw [if_neg (by rw [hd]; decide)]
   rw [this, ht, ann_at hkt]
  rw [e1] at hxg hMg ⊢
  have pk : ∀ i : Int, (M.accS n S.t (-3 - (k : Int)) 0).1.peek n i = if i = -3 - (k : Int) then some 0 else M.peek n i := fun i => by
   rw [accS_peek (by omega)]
   by_cases hi : i = -3 - (k : Int)
   ·rw [if_pos ⟨hi, by omega⟩, if_pos hi]
   ·rw [if_neg (fun h => hi h.1), if_neg hi]
  refine ⟨e, by rw [pk, if_neg (by omega)]; exact I.ep, fun in' h9 => ?_⟩
  have ak : annW n (M.accS n S.t (-3 - (k : Int)) 0).1 k = 0 := by unfold annW; rw [pk, if_pos rfl]; rfl
  obtain rfl : in' = false := by
   cases in' with
   | false => rfl
   | true => exact absurd ak (h9.1 rfl)
  exact I.put hk hMg accS_pass (by rw [pk, if_neg (by omega)]; exact I.ep) (by omega) hxg (fun k' hk' => by unfold annW; rw [pk, if_neg (by omega)]) h9 (fun h => by cases h) (.inl rfl) (fun now _ h _ => by cases h) (fun h => by cases h)
 | ad S =>
  have hd : S.done = false := hnd
  have hSg : S.good := hx0
  obtain ⟨hSt, hSn, hSx, hSp⟩ := hSg
  by_cases hp : S.pc = 0
  ·have hp0 : S.next = 0 := by
    rcases hSp with h | h | h
    ·rw [hd] at h; cases h
    ·exact h.2
    ·omega
   have e1 : stepE c n (.ad S) M = (.ad ⟨S.t, S.done, 1, e, S.next, S.moved⟩, (M.accL n S.t (-1)).1) := by
    show (MachE.ad (advStep c n S M).1, (advStep c n S M).2) = _
    have : advStep c n S M = (⟨S.t, S.done, 1, (M.accL n S.t (-1)).2.old, S.next, S.moved⟩, (M.accL n S.t (-1)).1) := by unfold advStep; rw [if_neg (by rw [hd]; decide), if_pos hp]
    rw [this, show (M.accL n S.t (-1)).2.old = e by show (M.peek n (-1)).getD 0 = e; rw [I.ep]; rfl]
   rw [e1] at hxg hMg ⊢
   exact ⟨e, I.ep, same e _ _ hMg rfl I.ep (by omega) hxg (fun _ => rfl) (.inl rfl) (fun h2 _ _ _ => fun _ _ => ⟨Int.le_refl _, fun k' _ _ _ _ => by show S.next ≤ _; omega⟩)⟩
  have hp1 : S.pc = 1 := by
   rcases hSp with h | h | h
   ·rw [hd] at h; cases h
   ·exact absurd h.1 hp
   ·exact h
  obtain ⟨hne, hall⟩ := hok hd hp1
  by_cases hnx : S.next < c.th
  ·have e1 : stepE c n (.ad S) M = (.ad (askS c n S M).1, (M.accL n S.t (annS c S.next)).1) := by
    show (MachE.ad (advStep c n S M).1, (advStep c n S M).2) = _
    have : advStep c n S M = askS c n S M := by unfold advStep; rw [if_neg (by rw [hd]; decide), if_neg hp, if_pos hnx]
    rw [this]; rfl
   rw [e1] at hxg hMg ⊢
   refine ⟨e, I.ep, same e _ _ hMg rfl I.ep (by omega) hxg (fun _ => rfl) (.inl rfl) (fun h2 hi2 ha2 _ => ?_)⟩
   intro hd2 _
   refine ⟨hne, fun k' h' hk' hi' ha' => ?_⟩
   show S.next + 1 ≤ _
   -- what was there of the thread that was asked
   have hold : ∃ h0, hs[k']? = some h0 ∧ h0.inn = true ∧ h0.at_ + 1 ≤ S.now := by
    rw [List.getElem?_set] at hk'
    by_cases hkk : k = k'
    ·subst hkk
     rw [if_pos rfl, if_pos hkl] at hk'
     cases hk'; exact ⟨_, hk, by rw [← hi2]; exact hi', by show at_ + 1 ≤ _; rw [← ha2]; exact ha'⟩
    ·rw [if_neg hkk] at hk'; exact ⟨h', hk', hi', ha'⟩
   obtain ⟨h0, q0, q1, q2⟩ := hold
   have h3 := hall k' h0 q0 q1 q2
   rcases Int.lt_or_eq_of_le h3 with h4 | h4
   ·omega
   ·exfalso
    have hw : askW c n S M = annW n M k' := by
     show (M.peek n (annS c S.next)).getD 0 = (M.peek n (-3 - (k' : Int))).getD 0
     rw [h4, ann_at (by omega)]
    have h5 := (I.inn k' h0 q0).1 q1
    obtain ⟨h6, _, _⟩ := I.at_ k' h0 q0 q1
    have hSn0 : 0 ≤ S.now := hSn.1
    have : (decide (askW c n S M ≠ 0 ∧ askW c n S M ≠ inc64 S.now)) = true := decide_eq_true (by rw [hw]; unfold inc64; omega)
    have h7 : (decide (askW c n S M ≠ 0 ∧ askW c n S M ≠ inc64 S.now)) = false := hd2
    rw [this] at h7; cases h7
  ·
   have e1 : stepE c n (.ad S) M = (.ad ⟨S.t, true, 2, S.now, S.next, (advA n S M).2.done⟩, (advA n S M).1) := by
    show (MachE.ad (advStep c n S M).1, (advStep c n S M).2) = _
    have : advStep c n S M = (⟨S.t, true, 2, S.now, S.next, (advA n S M).2.done⟩, (advA n S M).1) := by unfold advStep; rw [if_neg (by rw [hd]; decide), if_neg hp, if_neg hnx]
    rw [this]
   rw [e1] at hxg hMg ⊢
   have pk : ∀ i : Int, (advA n S M).1.peek n i = if i = -1 ∧ M.peek n (-1) = some S.now then some (inc64 S.now) else M.peek n i := fun i => accW_peek (by omega)
   have ann : ∀ k' : Nat, annW n (advA n S M).1 k' = annW n M k' := fun k' => by unfold annW; rw [pk, if_neg (by omega)]
   by_cases hE : e = S.now
   ·have hp2 : (advA n S M).1.peek n (-1) = some (e + 1) := by
     rw [pk, if_pos ⟨rfl, by rw [I.ep, hE]⟩]; congr 1; unfold inc64; omega
    refine ⟨e + 1, hp2, same (e + 1) _ _ hMg accW_pass hp2 (by omega) hxg ann (.inr ⟨rfl, fun k' h' hk' hi' => ?_⟩) (fun _ _ _ _ => fun h => by cases h)⟩
    rcases Int.lt_or_le e (h'.at_ + 1) with h1 | h1
    ·omega
    ·exfalso
     have h2 := hall k' h' hk' hi' (by omega)
     have h3 : k' < hs.length := (List.getElem?_eq_some_iff.1 hk').1
     have := I.len; omega
   ·have hp2 : (advA n S M).1.peek n (-1) = some e := by
     rw [pk, if_neg (fun h => hE (by have := I.ep.symm.trans h.2; cases this; rfl))]; exact I.ep
    exact ⟨e, hp2, same e _ _ hMg accW_pass hp2 (by omega) hxg ann (.inl rfl) (fun _ _ _ _ => fun h => by cases h)⟩
theorem HInv.start {c : Cfg} {n : Nat} {M : MemM} (hg : M.good) (hpl : (M.pass.length : Int) = 2 + c.th + c.sl) (ep : M.peek n (-1) = some 0) (ha : ∀ k : Nat, annW n M k = 0) : HInv c n (List.replicate c.th.toNat ⟨.no, false, 0⟩) M 0 0 := by
 have hget : ∀ (k : Nat) h, (List.replicate c.th.toNat (⟨.no, false, 0⟩ : HandE))[k]? = some h → h = ⟨.no, false, 0⟩ := fun k h hk => by
  rw [List.getElem?_replicate] at hk
  split at hk
  ·cases hk; rfl
  ·cases hk
 refine ⟨List.length_replicate, hg, hpl, ep, by omega, ?_, ?_, ?_, ?_⟩
 ·intro k h hk; rw [hget k h hk]; trivial
 ·intro k h hk; rw [hget k h hk, ha]; simp
 ·intro k h hk hi; rw [hget k h hk] at hi; cases hi
 ·intro k h hk; rw [hget k h hk]; trivial

end Go.Proofs.Ytajkickofkeemaa
