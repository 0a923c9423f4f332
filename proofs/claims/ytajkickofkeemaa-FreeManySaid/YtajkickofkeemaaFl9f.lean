/- Layer 9: several hands: the plain law. -/
import Derived.Test.YtajkickofkeemaaFl9e
namespace Go.Proofs.Ytajkickofkeemaa
open Go.RowKit
set_option linter.unusedVariables false
attribute [local irreducible] K.KW K.RW K.DW K.OW K.QR K.KC
inductive HandM where
 | nil
 | pop (S : PopS)
 | push (S : PushS)
def HandM.held : HandM → Int
 | .nil => -1
 | .pop _ => -1
 | .push S => S.slot
def HandM.good : HandM → Prop
 | .nil => True
 | .pop S => S.good
 | .push S => S.good
/-- a word that was the top is the top, or older -/
def TopOk (top w : Int) : Prop := isW w ∧ verI w ≤ verI top ∧ (verI w = verI top → w = top)
def HOk (c : Cfg) (n : Nat) (M : MemM) : HandM → Prop
 | .nil => False
 | .pop S => S.good ∧ S.slot = -1 ∧ (S.pc = 0 ∨ S.pc = 1 ∨ S.pc = 2) ∧ (¬ S.pc = 0 → TopOk (topW n M) S.top ∧ ¬ toI S.top = -1) ∧ (S.pc = 2 → verI S.top = verI (topW n M) → S.next = aftW c n M (toI S.top))
 | .push S => S.good ∧ (0 ≤ S.slot ∧ S.slot < c.sl) ∧ (S.pc = 0 ∨ S.pc = 1 ∨ S.pc = 2) ∧ (¬ S.pc = 0 → TopOk (topW n M) S.top) ∧ (S.pc = 2 → toI (aftW c n M S.slot) = toI S.top)
def handStep (c : Cfg) (n : Nat) (t : Int) : HandM → MemM → HandM × MemM
 | .nil, M => (.nil, M)
 | .pop S, M => (if (popStep c n S M).1.pc = 3 then (if (popStep c n S M).1.slot = -1 then .pop ⟨t, 0, 0, 0, -1⟩ else .push ⟨t, 0, 0, (popStep c n S M).1.slot⟩) else .pop (popStep c n S M).1, (popStep c n S M).2)
 | .push S, M => (if (pushStep c n S M).1.pc = 3 then .pop ⟨t, 0, 0, 0, -1⟩ else .push (pushStep c n S M).1, (pushStep c n S M).2)
structure MInv (c : Cfg) (n : Nat) (M : MemM) (L : List Int) (j : Nat) : Prop where
 good : M.good
 pl : (M.pass.length : Int) = 2 + c.th + c.sl
 ch : ChainF (aftW c n M) (topW n M) L
 nd : L.Nodup
 rg : ∀ s ∈ L, 0 ≤ s ∧ s < c.sl
 ver : verI (topW n M) ≤ j
structure FInv (c : Cfg) (n : Nat) (hs : List HandM) (M : MemM) (L : List Int) (j : Nat) : Prop where
 len : hs.length = c.th.toNat
 mi : MInv c n M L j
 held : ∀ (k : Nat) h, hs[k]? = some h → h.held ≠ -1 → 0 ≤ h.held ∧ h.held < c.sl ∧ ¬ h.held ∈ L
 dist : ∀ (k k' : Nat) h h', k ≠ k' → hs[k]? = some h → hs[k']? = some h' → h.held ≠ -1 → h.held ≠ h'.held
 all : ∀ s : Int, 0 ≤ s → s < c.sl → s ∈ L ∨ ∃ (k : Nat) (h : HandM), hs[k]? = some h ∧ h.held = s
 ok : ∀ (k : Nat) h, hs[k]? = some h → HOk c n M h
theorem topW_w {n : Nat} {M : MemM} (h : M.good) : isW (topW n M) := peek0_W h
theorem verI_nn (w : Int) : 0 ≤ verI w ∧ verI w < 4294967296 := by unfold verI; omega
theorem verI_newer {x w : Int} (h : verI w < 4294967295) : verI (newerI x w) = verI w + 1 := by
 have := verI_nn w
 unfold newerI topI
 show ((x + 1) % 4294967296 + (verI w + 1) % 4294967296 * 4294967296) / 4294967296 % 4294967296 = _
 omega
theorem peek_top {c : Cfg} {n : Nat} {M : MemM} (hpl : (M.pass.length : Int) = 2 + c.th + c.sl) (hth : 1 ≤ c.th ∧ 0 ≤ c.sl) : M.peek n (-2) = some (topW n M) := by
 unfold topW; rw [peek_pass (by omega)]; rfl
theorem TopOk.refl {w : Int} (h : isW w) : TopOk w w := ⟨h, Int.le_refl _, fun _ => rfl⟩
/-- how another hand stands behind it; at after: the slot is not its own, nor the top's -/
theorem HOk.keep_none {c : Cfg} {n : Nat} {M M' : MemM} {h : HandM} (hk : HOk c n M h) (h1 : topW n M' = topW n M) (h2 : ∀ s, 0 ≤ s → s < c.sl → aftW c n M' s = aftW c n M s) (hr : ∀ s, toI (topW n M) = s → ¬ s = -1 → 0 ≤ s ∧ s < c.sl) : HOk c n M' h := by
 cases h with
 | nil => exact hk.elim
 | pop S =>
  obtain ⟨a, b, d, e, f⟩ := hk
  refine ⟨a, b, d, by rw [h1]; exact e, fun hp hv => ?_⟩
  rw [h1] at hv
  have := e (by omega)
  have ht := this.1.2.2 hv
  have hrr := hr _ rfl (by rw [← ht]; exact this.2)
  rw [f hp hv, h2 _ (by rw [ht]; exact hrr.1) (by rw [ht]; exact hrr.2)]
 | push S =>
  obtain ⟨a, b, d, e, f⟩ := hk
  exact ⟨a, b, d, by rw [h1]; exact e, fun hp => by rw [h2 _ b.1 b.2]; exact f hp⟩
theorem HOk.keep_after {c : Cfg} {n : Nat} {M M' : MemM} {h : HandM} {s0 : Int} (hk : HOk c n M h) (h1 : topW n M' = topW n M) (h2 : ∀ s, 0 ≤ s → s < c.sl → s ≠ s0 → aftW c n M' s = aftW c n M s) (hr : ∀ s, toI (topW n M) = s → ¬ s = -1 → 0 ≤ s ∧ s < c.sl ∧ s ≠ s0) (hne : h.held ≠ s0) : HOk c n M' h := by
 cases h with
 | nil => exact hk.elim
 | pop S =>
  obtain ⟨a, b, d, e, f⟩ := hk
  refine ⟨a, b, d, by rw [h1]; exact e, fun hp hv => ?_⟩
  rw [h1] at hv
  have := e (by omega)
  have ht := this.1.2.2 hv
  have hrr := hr _ rfl (by rw [← ht]; exact this.2)
  rw [f hp hv, h2 _ (by rw [ht]; exact hrr.1) (by rw [ht]; exact hrr.2.1) (by rw [ht]; exact hrr.2.2)]
 | push S =>
  obtain ⟨a, b, d, e, f⟩ := hk
  exact ⟨a, b, d, by rw [h1]; exact e, fun hp => by rw [h2 _ b.1 b.2 hne]; exact f hp⟩
theorem TopOk.older {top w x : Int} (h : TopOk top x) (hv : verI w = verI top + 1) : TopOk w x := ⟨h.1, by have := h.2.1; omega, fun e => by have := h.2.1; omega⟩
theorem HOk.keep_top {c : Cfg} {n : Nat} {M M' : MemM} {h : HandM} {w : Int} (hk : HOk c n M h) (h1 : topW n M' = w) (hv : verI w = verI (topW n M) + 1) (h2 : ∀ s, 0 ≤ s → s < c.sl → aftW c n M' s = aftW c n M s) : HOk c n M' h := by
 cases h with
 | nil => exact hk.elim
 | pop S =>
  obtain ⟨a, b, d, e, f⟩ := hk
  refine ⟨a, b, d, fun hp => ?_, fun hp hv2 => ?_⟩
  ·rw [h1]; exact ⟨(e hp).1.older hv, (e hp).2⟩
  ·rw [h1] at hv2
   have := (e (by omega)).1.2.1; omega
 | push S =>
  obtain ⟨a, b, d, e, f⟩ := hk
  exact ⟨a, b, d, fun hp => by rw [h1]; exact (e hp).older hv, fun hp => by rw [h2 _ b.1 b.2]; exact f hp⟩
theorem top_head {c : Cfg} {n : Nat} {M : MemM} {L : List Int} {j : Nat} (I : MInv c n M L j) {s : Int} (h : toI (topW n M) = s) (hn : ¬ s = -1) : ∃ L', L = s :: L' := by
 have hc := I.ch
 cases L with
 | nil => exact absurd (h.symm.trans hc) hn
 | cons a L' => exact ⟨L', by rw [← h, hc.1]⟩
theorem top_rg {c : Cfg} {n : Nat} {M : MemM} {L : List Int} {j : Nat} (I : MInv c n M L j) : ∀ s, toI (topW n M) = s → ¬ s = -1 → 0 ≤ s ∧ s < c.sl := fun s h hn => by
 obtain ⟨L', rfl⟩ := top_head I h hn
 exact I.rg s (by simp)
/-- the hand k is set: what must be shown of it alone -/
theorem FInv.put {c : Cfg} {n : Nat} {hs : List HandM} {M M' : MemM} {L L' : List Int} {j k : Nat} {h0 h2 : HandM} (I : FInv c n hs M L j) (hk : hs[k]? = some h0) (mi : MInv c n M' L' (j + 1)) (ho : ∀ (k' : Nat) h, k' ≠ k → hs[k']? = some h → HOk c n M' h) (h2o : HOk c n M' h2)
  (hh : h2.held ≠ -1 → 0 ≤ h2.held ∧ h2.held < c.sl ∧ ¬ h2.held ∈ L' ∧ ∀ (k' : Nat) h, k' ≠ k → hs[k']? = some h → h.held ≠ h2.held) (hL : ∀ (k' : Nat) h, k' ≠ k → hs[k']? = some h → h.held ≠ -1 → ¬ h.held ∈ L')
  (ha : ∀ s : Int, 0 ≤ s → s < c.sl → s ∈ L' ∨ h2.held = s ∨ ∃ (k' : Nat) (h : HandM), k' ≠ k ∧ hs[k']? = some h ∧ h.held = s) : FInv c n (hs.set k h2) M' L' (j + 1) := by
 have hkl : k < hs.length := (List.getElem?_eq_some_iff.1 hk).1
 have hget : ∀ (k' : Nat) h, (hs.set k h2)[k']? = some h → (k' = k ∧ h = h2) ∨ (k' ≠ k ∧ hs[k']? = some h) := by
  intro k' h hh
  rw [List.getElem?_set] at hh
  by_cases hkk : k = k'
  ·subst hkk
   rw [if_pos rfl, if_pos hkl] at hh
   cases hh; exact .inl ⟨rfl, rfl⟩
  ·rw [if_neg hkk] at hh; exact .inr ⟨fun e => hkk e.symm, hh⟩
 refine ⟨by rw [List.length_set]; exact I.len, mi, ?_, ?_, ?_, ?_⟩
 ·intro k' h hg hn
  rcases hget k' h hg with ⟨rfl, rfl⟩ | ⟨hne, hg⟩
  ·obtain ⟨a, b, d, _⟩ := hh hn; exact ⟨a, b, d⟩
  ·obtain ⟨a, b, _⟩ := I.held k' h hg hn; exact ⟨a, b, hL k' h hne hg hn⟩
 ·intro k1 k' h h' hne hgA hgB hn
  rcases hget k1 h hgA with ⟨rfl, rfl⟩ | ⟨hne1, hg1⟩
  ·rcases hget k' h' hgB with ⟨rfl, rfl⟩ | ⟨hne2, hg2⟩
   ·exact absurd rfl hne
   ·exact fun e => (hh hn).2.2.2 k' h' hne2 hg2 e.symm
  ·rcases hget k' h' hgB with ⟨rfl, rfl⟩ | ⟨hne2, hg2⟩
   ·intro e
    exact (hh (by rw [← e]; exact hn)).2.2.2 k1 h hne1 hg1 e
   ·exact I.dist k1 k' h h' hne hg1 hg2 hn
 ·intro s h0 h1
  rcases ha s h0 h1 with h | h | ⟨k', h, hne, hg, he⟩
  ·exact .inl h
  ·exact .inr ⟨k, h2, by rw [List.getElem?_set, if_pos rfl, if_pos hkl], h⟩
  ·exact .inr ⟨k', h, by rw [List.getElem?_set, if_neg (fun e => hne e.symm)]; exact hg, he⟩
 ·intro k' h hg
  rcases hget k' h hg with ⟨rfl, rfl⟩ | ⟨hne, hg⟩
  ·exact h2o
  ·exact ho k' h hne hg
theorem MInv.same {c : Cfg} {n : Nat} {M M' : MemM} {L : List Int} {j : Nat} (I : MInv c n M L j) (hg : M'.good) (hpl : M'.pass.length = M.pass.length) (h1 : topW n M' = topW n M) (h2 : ∀ s ∈ L, aftW c n M' s = aftW c n M s) : MInv c n M' L (j + 1) :=
 ⟨hg, by rw [hpl]; exact I.pl, by rw [h1]; exact ChainF.ext (fun s hs => (h2 s hs).symm) I.ch, I.nd, I.rg, by rw [h1]; have := I.ver; omega⟩
/-- the others hold what they held: those that held s were all but k, if k held nothing -/
theorem FInv.rest {c : Cfg} {n : Nat} {hs : List HandM} {M : MemM} {L : List Int} {j k : Nat} {h0 : HandM} (I : FInv c n hs M L j) (hk : hs[k]? = some h0) (s : Int) (h1 : 0 ≤ s) (h2 : s < c.sl) : s ∈ L ∨ h0.held = s ∨ ∃ (k' : Nat) (h : HandM), k' ≠ k ∧ hs[k']? = some h ∧ h.held = s := by
 rcases I.all s h1 h2 with h | ⟨k', h, hg, he⟩
 ·exact .inl h
 ·by_cases hkk : k' = k
  ·subst hkk; rw [hk] at hg; cases hg; exact .inr (.inl he)
  ·exact .inr (.inr ⟨k', h, hkk, hg, he⟩)
theorem FInv.next {c : Cfg} {n : Nat} {hs : List HandM} {M : MemM} {L : List Int} {j k : Nat} {h0 : HandM} {t : Int} (hc : 1 ≤ c.th ∧ 0 ≤ c.sl ∧ c.sl ≤ 30) (ht : isInt t) (I : FInv c n hs M L j) (hj : j ≤ 1000) (hk : hs[k]? = some h0) :
  ∃ L', FInv c n (hs.set k (handStep c n t h0 M).1) (handStep c n t h0 M).2 L' (j + 1) := by
 have J := I.mi
 have hv := J.ver
 have htw := topW_w (n := n) J.good
 have hpt := peek_top (c := c) (n := n) J.pl ⟨hc.1, hc.2.1⟩
 have htr := top_rg J
 have hko := I.ok k h0 hk
 have hnew : ∀ M' : MemM, HOk c n M' (.pop ⟨t, 0, 0, 0, -1⟩) := fun M' => ⟨popInit ht, rfl, .inl rfl, fun h => absurd rfl h, fun (h : (0 : Int) = 2) => absurd h (by decide)⟩
 -- a hand that holds what it held, a list that is as it was
 have same : ∀ (M' : MemM) (h2 : HandM), M'.good → M'.pass.length = M.pass.length → topW n M' = topW n M → (∀ s, 0 ≤ s → s < c.sl → aftW c n M' s = aftW c n M s) → HOk c n M' h2 → h2.held = h0.held → FInv c n (hs.set k h2) M' L (j + 1) := by
  intro M' h2 hg hpl h1 h3 h4 h5
  refine I.put hk (J.same hg hpl h1 (fun s hs => h3 s (J.rg s hs).1 (J.rg s hs).2)) (fun k' h hne hg' => (I.ok k' h hg').keep_none h1 h3 htr) h4 ?_ (fun k' h hne hg' hn => (I.held k' h hg' hn).2.2) (fun s h6 h7 => by rw [h5]; exact I.rest hk s h6 h7)
  intro hn
  rw [h5] at hn ⊢
  obtain ⟨a, b, d⟩ := I.held k h0 hk hn
  exact ⟨a, b, d, fun k' h hne hg' e => I.dist k k' h0 h (fun e => hne e.symm) hk hg' hn e.symm⟩
 cases h0 with
 | nil => exact hko.elim
 | pop S =>
  obtain ⟨hSg, hsl, hpc, htop, hnx⟩ := hko
  obtain ⟨hXg, hXm⟩ := popStep_good (c := c) (n := n) hSg J.good
  rcases hpc with hpc | hpc | hpc
  ·
   have e0 : popStep c n S M = (⟨S.t, if toI (topW n M) = -1 then 3 else 1, topW n M, S.next, S.slot⟩, (M.accL n S.t (-2)).1) := by
    unfold popStep; rw [if_neg (by omega), if_pos hpc]; rfl
   by_cases hno : toI (topW n M) = -1
   ·have e1 : handStep c n t (.pop S) M = (.pop ⟨t, 0, 0, 0, -1⟩, (M.accL n S.t (-2)).1) := by
     unfold handStep; simp only [e0]; rw [if_pos hno, if_pos rfl, if_pos hsl]
    rw [e1]; rw [e0] at hXm
    exact ⟨L, same _ _ hXm rfl rfl (fun _ _ _ => rfl) (hnew _) rfl⟩
   ·have e1 : handStep c n t (.pop S) M = (.pop ⟨S.t, 1, topW n M, S.next, S.slot⟩, (M.accL n S.t (-2)).1) := by
     unfold handStep; simp only [e0]; rw [if_neg hno, if_neg (by decide)]
    rw [e1]; rw [e0] at hXm hXg
    exact ⟨L, same _ _ hXm rfl rfl (fun _ _ _ => rfl) ⟨hXg, hsl, .inr (.inl rfl), fun _ => ⟨TopOk.refl htw, hno⟩, fun (h : (1 : Int) = 2) => absurd h (by decide)⟩ rfl⟩
  ·
   have e0 : popStep c n S M = (⟨S.t, 2, S.top, aftW c n M (toI S.top), S.slot⟩, (M.accL n S.t (aftS c (toI S.top))).1) := by
    unfold popStep; rw [if_neg (by omega), if_neg (by omega), if_pos hpc]; rfl
   have e1 : handStep c n t (.pop S) M = (.pop ⟨S.t, 2, S.top, aftW c n M (toI S.top), S.slot⟩, (M.accL n S.t (aftS c (toI S.top))).1) := by
    unfold handStep; simp only [e0]; rw [if_neg (by decide)]
   rw [e1]; rw [e0] at hXm hXg
   exact ⟨L, same _ _ hXm rfl rfl (fun _ _ _ => rfl) ⟨hXg, hsl, .inr (.inr rfl), fun _ => htop (by omega), fun _ _ => rfl⟩ rfl⟩
  ·
   obtain ⟨hto, htn⟩ := htop (by omega)
   have pk : ∀ i : Int, (M.accW n S.t (-2) S.top (newerI (toI S.next) S.top)).1.peek n i = if i = -2 ∧ M.peek n (-2) = some S.top then some (newerI (toI S.next) S.top) else M.peek n i := fun i => accW_peek (by omega)
   have hpl : (M.accW n S.t (-2) S.top (newerI (toI S.next) S.top)).1.pass.length = M.pass.length := accW_pass
   have haf : ∀ s, 0 ≤ s → s < c.sl → aftW c n (M.accW n S.t (-2) S.top (newerI (toI S.next) S.top)).1 s = aftW c n M s := fun s h1 h2 => by
    unfold aftW; rw [aft_at ⟨h1, h2⟩, pk, if_neg (by omega)]
   by_cases hw : topW n M = S.top
   ·have hd : (M.accW n S.t (-2) S.top (newerI (toI S.next) S.top)).2.done = true := by show (M.peek n (-2) == some S.top) = true; rw [hpt, hw]; simp
    have e0 : popStep c n S M = (⟨S.t, 3, S.top, S.next, toI S.top⟩, (M.accW n S.t (-2) S.top (newerI (toI S.next) S.top)).1) := by
     unfold popStep; rw [if_neg (by omega), if_neg (by omega), if_neg (by omega), if_pos hd]
    have e1 : handStep c n t (.pop S) M = (.push ⟨t, 0, 0, toI S.top⟩, (M.accW n S.t (-2) S.top (newerI (toI S.next) S.top)).1) := by
     unfold handStep; simp only [e0]; rw [if_pos trivial, if_neg htn]
    rw [e1]; rw [e0] at hXm
    obtain ⟨L', rfl⟩ := top_head J (s := toI S.top) (by rw [hw]) htn
    have hrs := J.rg (toI S.top) (by simp)
    have hnd := List.nodup_cons.1 J.nd
    have hnext := hnx hpc (by rw [hw])
    have ht2 : topW n (M.accW n S.t (-2) S.top (newerI (toI S.next) S.top)).1 = newerI (toI S.next) S.top := by unfold topW; rw [pk, if_pos ⟨rfl, by rw [hpt, hw]⟩]; rfl
    have hv2 : verI (newerI (toI S.next) S.top) = verI (topW n M) + 1 := by rw [hw]; exact verI_newer (by rw [← hw]; omega)
    have hch := J.ch
    refine ⟨L', I.put hk ⟨hXm, by rw [hpl]; exact J.pl, ?_, hnd.2, fun s hs => J.rg s (by simp [hs]), by rw [ht2, hv2]; omega⟩ (fun k' h hne hg' => (I.ok k' h hg').keep_top ht2 hv2 haf) ⟨pushInit ht (by show isInt (toI S.top); omega), hrs, .inl rfl, fun h => absurd rfl h, fun (h : (0 : Int) = 2) => absurd h (by decide)⟩ ?_ ?_ ?_⟩
    ·rw [ht2]
     refine ChainF.word (w := aftW c n M (toI S.top)) ?_ (ChainF.ext (fun s hs => (haf s (J.rg s (by simp [hs])).1 (J.rg s (by simp [hs])).2).symm) hch.2)
     rw [toI_newer ⟨toI_ge _, toI_lt _⟩, hnext]
    ·intro _
     exact ⟨hrs.1, hrs.2, hnd.1, fun k' h hne hg' e => (I.held k' h hg' (by rw [e]; show toI S.top ≠ -1; omega)).2.2 (by rw [e]; simp [HandM.held])⟩
    ·intro k' h hne hg' hn hm
     exact (I.held k' h hg' hn).2.2 (by simp [hm])
    ·intro s h1 h2
     rcases I.rest hk s h1 h2 with h | h | h
     ·rcases List.mem_cons.1 h with h | h
      ·exact .inr (.inl h.symm)
      ·exact .inl h
     ·exfalso; have h : (-1 : Int) = s := h; omega
     ·exact .inr (.inr h)
   ·have hd : ¬ (M.accW n S.t (-2) S.top (newerI (toI S.next) S.top)).2.done = true := by show ¬ (M.peek n (-2) == some S.top) = true; rw [hpt]; simpa using hw
    have e0 : popStep c n S M = (⟨S.t, 0, S.top, S.next, S.slot⟩, (M.accW n S.t (-2) S.top (newerI (toI S.next) S.top)).1) := by
     unfold popStep; rw [if_neg (by omega), if_neg (by omega), if_neg (by omega), if_neg hd]
    have e1 : handStep c n t (.pop S) M = (.pop ⟨S.t, 0, S.top, S.next, S.slot⟩, (M.accW n S.t (-2) S.top (newerI (toI S.next) S.top)).1) := by
     unfold handStep; simp only [e0]; rw [if_neg (by decide)]
    rw [e1]; rw [e0] at hXm hXg
    have ht2 : topW n (M.accW n S.t (-2) S.top (newerI (toI S.next) S.top)).1 = topW n M := by unfold topW; rw [pk, if_neg (fun h => hw (Option.some.inj (hpt.symm.trans h.2)))]
    exact ⟨L, same _ _ hXm hpl ht2 haf ⟨hXg, hsl, .inl rfl, fun h => absurd rfl h, fun (h : (0 : Int) = 2) => absurd h (by decide)⟩ rfl⟩
 | push S =>
  obtain ⟨hSg, hsl, hpc, htop, hnx⟩ := hko
  obtain ⟨hXg, hXm⟩ := pushStep_good (c := c) (n := n) hSg J.good
  have hheld := I.held k (.push S) hk (by show S.slot ≠ -1; omega)
  rcases hpc with hpc | hpc | hpc
  ·have e0 : pushStep c n S M = (⟨S.t, 1, topW n M, S.slot⟩, (M.accL n S.t (-2)).1) := by
    unfold pushStep; rw [if_neg (by omega), if_pos hpc]; rfl
   have e1 : handStep c n t (.push S) M = (.push ⟨S.t, 1, topW n M, S.slot⟩, (M.accL n S.t (-2)).1) := by
    unfold handStep; simp only [e0]; rw [if_neg (by decide)]
   rw [e1]; rw [e0] at hXm hXg
   exact ⟨L, same _ _ hXm rfl rfl (fun _ _ _ => rfl) ⟨hXg, hsl, .inr (.inl rfl), fun _ => TopOk.refl htw, fun (h : (1 : Int) = 2) => absurd h (by decide)⟩ rfl⟩
  ·
   have pk : ∀ i : Int, (M.accS n S.t (-3 - c.th - S.slot) (topI (toI S.top) 0)).1.peek n i = if i = -3 - c.th - S.slot then some (topI (toI S.top) 0) else M.peek n i := fun i => by
    rw [accS_peek (by omega)]
    have hp := J.pl
    by_cases hi : i = -3 - c.th - S.slot
    ·rw [if_pos ⟨hi, by omega⟩, if_pos hi]
    ·rw [if_neg (fun h => hi h.1), if_neg hi]
   have e0 : pushStep c n S M = (⟨S.t, 2, S.top, S.slot⟩, (M.accS n S.t (-3 - c.th - S.slot) (topI (toI S.top) 0)).1) := by
    unfold pushStep; rw [if_neg (by omega), if_neg (by omega), if_pos hpc, aft_at hsl]
   have e1 : handStep c n t (.push S) M = (.push ⟨S.t, 2, S.top, S.slot⟩, (M.accS n S.t (-3 - c.th - S.slot) (topI (toI S.top) 0)).1) := by
    unfold handStep; simp only [e0]; rw [if_neg (by decide)]
   rw [e1]; rw [e0] at hXm hXg
   have h1 : topW n (M.accS n S.t (-3 - c.th - S.slot) (topI (toI S.top) 0)).1 = topW n M := by unfold topW; rw [pk, if_neg (by omega)]
   have h2 : ∀ s, 0 ≤ s → s < c.sl → s ≠ S.slot → aftW c n (M.accS n S.t (-3 - c.th - S.slot) (topI (toI S.top) 0)).1 s = aftW c n M s := fun s h3 h4 h5 => by
    unfold aftW; rw [aft_at ⟨h3, h4⟩, pk, if_neg (by omega)]
   have h3 : aftW c n (M.accS n S.t (-3 - c.th - S.slot) (topI (toI S.top) 0)).1 S.slot = topI (toI S.top) 0 := by unfold aftW; rw [aft_at hsl, pk, if_pos rfl]; rfl
   have hnL : ¬ S.slot ∈ L := hheld.2.2
   refine ⟨L, I.put hk (J.same hXm accS_pass h1 (fun s hs => h2 s (J.rg s hs).1 (J.rg s hs).2 (fun e => hnL (e ▸ hs)))) (fun k' h hne hg' => ?_) ⟨hXg, hsl, .inr (.inr rfl), fun _ => by rw [h1]; exact htop (by omega), fun _ => by rw [h3]; exact toI_topI ⟨toI_ge _, toI_lt _⟩⟩ ?_ (fun k' h hne hg' hn => (I.held k' h hg' hn).2.2) (fun s h6 h7 => I.rest hk s h6 h7)⟩
   ·refine (I.ok k' h hg').keep_after (s0 := S.slot) h1 h2 (fun s hs hn => ?_) (fun e => I.dist k k' (.push S) h (fun e => hne e.symm) hk hg' (by show S.slot ≠ -1; omega) e.symm)
    obtain ⟨L', rfl⟩ := top_head J hs hn
    have := htr s hs hn
    exact ⟨this.1, this.2, fun e => hnL (by simp [e])⟩
   ·intro hn
    exact ⟨hsl.1, hsl.2, hnL, fun k' h hne hg' e => I.dist k k' (.push S) h (fun e => hne e.symm) hk hg' (by show S.slot ≠ -1; omega) e.symm⟩
  ·
   have hto := htop (by omega)
   have pk : ∀ i : Int, (M.accW n S.t (-2) S.top (newerI S.slot S.top)).1.peek n i = if i = -2 ∧ M.peek n (-2) = some S.top then some (newerI S.slot S.top) else M.peek n i := fun i => accW_peek (by omega)
   have hpl : (M.accW n S.t (-2) S.top (newerI S.slot S.top)).1.pass.length = M.pass.length := accW_pass
   have haf : ∀ s, 0 ≤ s → s < c.sl → aftW c n (M.accW n S.t (-2) S.top (newerI S.slot S.top)).1 s = aftW c n M s := fun s h1 h2 => by
    unfold aftW; rw [aft_at ⟨h1, h2⟩, pk, if_neg (by omega)]
   by_cases hw : topW n M = S.top
   ·have hd : (M.accW n S.t (-2) S.top (newerI S.slot S.top)).2.done = true := by show (M.peek n (-2) == some S.top) = true; rw [hpt, hw]; simp
    have e0 : pushStep c n S M = (⟨S.t, 3, S.top, S.slot⟩, (M.accW n S.t (-2) S.top (newerI S.slot S.top)).1) := by
     unfold pushStep; rw [if_neg (by omega), if_neg (by omega), if_neg (by omega), if_pos hd]
    have e1 : handStep c n t (.push S) M = (.pop ⟨t, 0, 0, 0, -1⟩, (M.accW n S.t (-2) S.top (newerI S.slot S.top)).1) := by
     unfold handStep; simp only [e0]; rw [if_pos trivial]
    rw [e1]; rw [e0] at hXm
    have ht2 : topW n (M.accW n S.t (-2) S.top (newerI S.slot S.top)).1 = newerI S.slot S.top := by unfold topW; rw [pk, if_pos ⟨rfl, by rw [hpt, hw]⟩]; rfl
    have hv2 : verI (newerI S.slot S.top) = verI (topW n M) + 1 := by rw [hw]; exact verI_newer (by rw [← hw]; omega)
    have hnL : ¬ S.slot ∈ L := hheld.2.2
    refine ⟨S.slot :: L, I.put hk ⟨hXm, by rw [hpl]; exact J.pl, ?_, List.nodup_cons.2 ⟨hnL, J.nd⟩, ?_, by rw [ht2, hv2]; omega⟩ (fun k' h hne hg' => (I.ok k' h hg').keep_top ht2 hv2 haf) (hnew _) (fun h => absurd rfl h) ?_ ?_⟩
    ·rw [ht2]
     refine ⟨toI_newer (by omega), ?_⟩
     rw [haf _ hsl.1 hsl.2]
     refine ChainF.word (w := topW n M) ?_ (ChainF.ext (fun s hs => (haf s (J.rg s hs).1 (J.rg s hs).2).symm) J.ch)
     rw [hnx hpc, hw]
    ·intro s hs
     rcases List.mem_cons.1 hs with rfl | hs
     ·exact hsl
     ·exact J.rg s hs
    ·intro k' h hne hg' hn hm
     rcases List.mem_cons.1 hm with e | hm
     ·exact I.dist k k' (.push S) h (fun e => hne e.symm) hk hg' (by show S.slot ≠ -1; omega) e.symm
     ·exact (I.held k' h hg' hn).2.2 hm
    ·intro s h1 h2
     rcases I.rest hk s h1 h2 with h | h | h
     ·exact .inl (by simp [h])
     ·exact .inl (by have h : S.slot = s := h; simp [h])
     ·exact .inr (.inr h)
   ·have hd : ¬ (M.accW n S.t (-2) S.top (newerI S.slot S.top)).2.done = true := by show ¬ (M.peek n (-2) == some S.top) = true; rw [hpt]; simpa using hw
    have e0 : pushStep c n S M = (⟨S.t, 0, S.top, S.slot⟩, (M.accW n S.t (-2) S.top (newerI S.slot S.top)).1) := by
     unfold pushStep; rw [if_neg (by omega), if_neg (by omega), if_neg (by omega), if_neg hd]
    have e1 : handStep c n t (.push S) M = (.push ⟨S.t, 0, S.top, S.slot⟩, (M.accW n S.t (-2) S.top (newerI S.slot S.top)).1) := by
     unfold handStep; simp only [e0]; rw [if_neg (by decide)]
    rw [e1]; rw [e0] at hXm hXg
    have ht2 : topW n (M.accW n S.t (-2) S.top (newerI S.slot S.top)).1 = topW n M := by unfold topW; rw [pk, if_neg (fun h => hw (Option.some.inj (hpt.symm.trans h.2)))]
    exact ⟨L, same _ _ hXm hpl ht2 haf ⟨hXg, hsl, .inl rfl, fun h => absurd rfl h, fun (h : (0 : Int) = 2) => absurd h (by decide)⟩ rfl⟩
theorem FInv.start {c : Cfg} {n m : Nat} {M : MemM} (F : FGround c n m M) (hm : (m : Int) = c.sl) (hth : 1 ≤ c.th ∧ c.th ≤ 64) : FInv c n ((List.range c.th.toNat).map fun (i : Nat) => .pop ⟨(i : Int), 0, 0, 0, -1⟩) M (rangeI m) 0 := by
 have hget : ∀ (k : Nat) h, ((List.range c.th.toNat).map fun (i : Nat) => HandM.pop ⟨(i : Int), 0, 0, 0, -1⟩)[k]? = some h → (k : Int) < c.th ∧ h = .pop ⟨(k : Int), 0, 0, 0, -1⟩ := fun k h hk => by
  rw [List.getElem?_map, Option.map_eq_some_iff] at hk
  obtain ⟨a, ha, rfl⟩ := hk
  obtain ⟨h1, h2⟩ := List.getElem?_eq_some_iff.1 ha
  rw [List.getElem_range] at h2
  subst h2
  have : k < c.th.toNat := by simpa using h1
  exact ⟨by omega, rfl⟩
 obtain ⟨w, hw, hb⟩ := F.tp
 have htop : topW n M = w := by unfold topW; rw [hw]; rfl
 refine ⟨by simp, ⟨F.good, F.pl, F.ch, rangeI_nodup m, fun s hs => by have := rangeI_mem.1 hs; omega, by rw [htop]; unfold verI; omega⟩, ?_, ?_, ?_, ?_⟩
 ·intro k h hk hn
  rw [(hget k h hk).2] at hn; exact absurd rfl hn
 ·intro k k' h h' _ hk _ hn
  rw [(hget k h hk).2] at hn; exact absurd rfl hn
 ·intro s h0 h1
  exact .inl (rangeI_mem.2 ⟨h0, by omega⟩)
 ·intro k h hk
  obtain ⟨h1, rfl⟩ := hget k h hk
  exact ⟨popInit (by show isInt (k : Int); omega), rfl, .inl rfl, fun h => absurd rfl h, fun (h : (0 : Int) = 2) => absurd h (by decide)⟩
theorem FInv.list {c : Cfg} {n : Nat} {hs : List HandM} {M : MemM} {L : List Int} {j : Nat} (I : FInv c n hs M L j) : listG c n M = (L, true) := listG_chain I.mi.ch I.mi.nd I.mi.rg
theorem FInv.nonil {c : Cfg} {n : Nat} {hs : List HandM} {M : MemM} {L : List Int} {j : Nat} (I : FInv c n hs M L j) : ∀ (k : Nat) h, hs[k]? = some h → h ≠ .nil := fun k h hk e => by
 have := I.ok k h hk; rw [e] at this; exact this
theorem FInv.heldb {c : Cfg} {n : Nat} {hs : List HandM} {M : MemM} {L : List Int} {j : Nat} (I : FInv c n hs M L j) (hsl : 0 ≤ c.sl) (h1 : 1 ≤ c.sl) : ∀ (k : Nat) h, hs[k]? = some h → -1 ≤ h.held ∧ h.held < c.sl := fun k h hk => by
 by_cases hn : h.held = -1
 ·omega
 ·have := I.held k h hk hn; omega
theorem count_map_le {hs : List HandM} : ∀ {s : Int}, s ≠ -1 → (∀ (k k' : Nat) h h', k ≠ k' → hs[k]? = some h → hs[k']? = some h' → h.held ≠ -1 → h.held ≠ h'.held) → (hs.map HandM.held).count s ≤ 1 := by
 induction hs with
 | nil => intro s _ _; simp
 | cons a hs ih =>
  intro s hs1 hd
  rw [List.map_cons, List.count_cons]
  have hd2 : ∀ (k k' : Nat) h h', k ≠ k' → hs[k]? = some h → hs[k']? = some h' → h.held ≠ -1 → h.held ≠ h'.held := fun k k' h h' hne h1 h2 h3 => hd (k + 1) (k' + 1) h h' (by omega) (by simpa using h1) (by simpa using h2) h3
  have := ih hs1 hd2
  by_cases ha : a.held = s
  ·have h0 : (hs.map HandM.held).count s = 0 := by
    rw [List.count_eq_zero]
    intro hm
    obtain ⟨b, hb, he⟩ := List.mem_map.1 hm
    obtain ⟨i, hi, e⟩ := List.mem_iff_getElem.1 hb
    exact hd 0 (i + 1) a b (by omega) rfl (by simp [hi, e]) (by rw [ha]; exact hs1) (by rw [ha, he])
   rw [h0]; simp [ha]
  ·simp [ha]; exact this
theorem FInv.cnt {c : Cfg} {n : Nat} {hs : List HandM} {M : MemM} {L : List Int} {j : Nat} (I : FInv c n hs M L j) : ∀ s : Int, 0 ≤ s → s < c.sl → L.count s + (hs.map HandM.held).count s = 1 := fun s h0 h1 => by
 have hle := count_map_le (hs := hs) (s := s) (by omega) I.dist
 by_cases hm : s ∈ L
 ·have e1 : L.count s = 1 := by
   have h2 := List.nodup_iff_count.1 I.mi.nd s
   have h3 := List.count_pos_iff.2 hm
   omega
  have e2 : (hs.map HandM.held).count s = 0 := by
   rw [List.count_eq_zero]
   intro hx
   obtain ⟨b, hb, he⟩ := List.mem_map.1 hx
   obtain ⟨i, hi, e⟩ := List.mem_iff_getElem.1 hb
   exact (I.held i b (by simp [hi, e]) (by rw [he]; omega)).2.2 (by rw [he]; exact hm)
  omega
 ·have e1 : L.count s = 0 := List.count_eq_zero.2 hm
  have e2 : 0 < (hs.map HandM.held).count s := by
   rcases I.all s h0 h1 with h | ⟨k, h, hk, he⟩
   ·exact absurd h hm
   ·exact List.count_pos_iff.2 (List.mem_map.2 ⟨h, List.mem_of_getElem? hk, he⟩)
  omega
/-- how often each slot was met: in so much of the list, and by so many hands -/
def cntT (N : Nat) (L : List Int) (hs : List Int) : List Int := (List.range N).map fun (s : Nat) => ((L.count (s : Int) + hs.count (s : Int) : Nat) : Int)
theorem cntT_len (N : Nat) (L hs : List Int) : (cntT N L hs).length = N := by simp [cntT]
theorem cntT_nil (N : Nat) : List.replicate N (0 : Int) = cntT N [] [] := by
 apply List.ext_getElem (by simp [cntT])
 intro i h1 h2
 simp [cntT]
theorem cntT_get {N : Nat} {L hs : List Int} {s : Int} (h : 0 ≤ s ∧ s < N) : (cntT N L hs).getD s.toNat 0 = ((L.count s + hs.count s : Nat) : Int) := by
 have h1 : s.toNat < N := by omega
 have h2 : ((s.toNat : Nat) : Int) = s := by omega
 simp [cntT, h1, h2]
theorem cntT_setL {N : Nat} {L hs : List Int} {s : Int} (h : 0 ≤ s ∧ s < N) : (cntT N L hs).set s.toNat (((L.count s + hs.count s : Nat) : Int) + 1) = cntT N (L ++ [s]) hs := by
 apply List.ext_getElem (by simp [cntT])
 intro i h1 h2
 rw [List.getElem_set]
 have hi : i < N := by simpa [cntT] using h1
 by_cases e : s.toNat = i
 ·subst e
  have h2 : ((s.toNat : Nat) : Int) = s := by omega
  simp [cntT, h2]; omega
 ·have h3 : ¬ s = (i : Int) := by omega
  simp [cntT, e, List.count_append, List.count_cons, h3]
theorem cntT_setH {N : Nat} {L hs : List Int} {s : Int} (h : 0 ≤ s ∧ s < N) : (cntT N L hs).set s.toNat (((L.count s + hs.count s : Nat) : Int) + 1) = cntT N L (hs ++ [s]) := by
 apply List.ext_getElem (by simp [cntT])
 intro i h1 h2
 rw [List.getElem_set]
 have hi : i < N := by simpa [cntT] using h1
 by_cases e : s.toNat = i
 ·subst e
  have h2 : ((s.toNat : Nat) : Int) = s := by omega
  simp [cntT, h2]; omega
 ·have h3 : ¬ s = (i : Int) := by omega
  simp [cntT, e, List.count_append, List.count_cons, h3]
theorem cntT_skip {N : Nat} {L hs : List Int} {s : Int} (h : s < 0) : cntT N L hs = cntT N L (hs ++ [s]) := by
 apply List.ext_getElem (by simp [cntT])
 intro i h1 h2
 have h3 : ¬ s = (i : Int) := by omega
 simp [cntT, List.count_append, List.count_cons, h3]
theorem take_snocZ {L : List Int} {i : Nat} (h : i < L.length) : L.take (i + 1) = L.take i ++ [L.getD i 0] := by rw [List.take_succ_eq_append_getElem h]; simp [h]
theorem take_held {hs : List HandM} {k : Nat} {h : HandM} (hk : hs[k]? = some h) : (hs.take (k + 1)).map HandM.held = (hs.take k).map HandM.held ++ [h.held] := by
 obtain ⟨h1, h2⟩ := List.getElem?_eq_some_iff.1 hk
 rw [List.take_succ_eq_append_getElem h1, List.map_append, h2]; rfl
theorem count_le (L : List Int) (s : Int) : L.count s ≤ L.length := List.count_le_length
end Go.Proofs.Ytajkickofkeemaa
