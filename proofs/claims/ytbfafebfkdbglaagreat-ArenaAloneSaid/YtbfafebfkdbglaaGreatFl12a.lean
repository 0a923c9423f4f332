import Derived.Test.YtbfafebfkdbglaaGreatFl12
/- Layer 12: a Take, all alone: the plain law. -/
namespace Go.Proofs.YtbfafebfkdbglaaGreat
open Go.RowKit
set_option linter.unusedVariables false
attribute [local irreducible] K.KW K.RW K.DW K.OW K.QR K.KC
section
variable {n t : Nat} {th i v w o : Int} {M : MemM}
theorem linec.th.toNatget (W : List Int) (i : Nat) : W.getD i 0 = (lineT W (i / 8)).getD (i % 8) 0 := by
 unfold lineT
 simp only [List.getD_eq_getElem?_getD, List.getElem?_take, List.getElem?_drop]
 rw [if_pos (Nat.mod_lt _ (by decide)), show 8 * (i / 8) + i % 8 = i by omega]
theorem accF_in (hi : 0 ≤ i ∧ i < n * 8) (ht : 0 ≤ th ∧ th < t) : (M.accF n t th i).1 = ({ M with dev := M.dev.mark th.toNat (i / 8).toNat } : MemM).count ⟨4, th, i, 0, 0, true⟩ true := by
 have h : decide (0 ≤ i ∧ i < n * 8 ∧ 0 ≤ th ∧ th < t) = true := decide_eq_true ⟨hi.1, hi.2, ht⟩
 unfold MemM.accF; simp only [h]; rfl
theorem accE_in (ht : 0 ≤ th ∧ th < t) : (M.accE t th).1 = ({ M with dev := M.dev.fence th.toNat } : MemM).count ⟨5, th, 0, 0, 0, true⟩ true := by
 have h : decide (0 ≤ th ∧ th < t) = true := decide_eq_true ht
 unfold MemM.accE; simp only [h]; rfl
theorem fence_kept (hok : M.dev.ok n t) (hi : 0 ≤ i ∧ i < n * 8) {k : Nat} (hk : k < t) : (M.dev.fence k).kept.getD i.toNat 0 = if (M.dev.flush.getD k []).getD (i / 8).toNat false = true then M.dev.seen.getD i.toNat 0 else M.dev.kept.getD i.toNat 0 := by
 rw [linec.th.toNatget, fence_line hok hk (by omega), show (i / 8).toNat = i.toNat / 8 by omega]
 split
 ·rw [← linec.th.toNatget]
 ·rw [← linec.th.toNatget]
theorem accS_kept : (M.accS n th i w).1.dev.kept = M.dev.kept := by
 show (if (M.peek n i).isSome = true then M.put i w else M).dev.kept = _
 split
 ·unfold MemM.put; split <;> rfl
 ·rfl
end
/-- a list of free slots, their generations, the logs -/
structure AFree (c : Cfg) (L : List Int) (M : MemM) : Prop where
 good : M.good
 pl : (M.pass.length : Int) = 2 + c.th + c.sl
 z : LogZ c M
 ch : ChainF (aftW c (lns c).toNat M) (topW (lns c).toNat M) L
 rg : ∀ s ∈ L, 0 ≤ s ∧ s < c.sl
 nd : L.Nodup
 gens : ∀ s ∈ L, M.peek (lns c).toNat (genS c s) = some 0
section
variable {c : Cfg} {L : List Int} {M M' : MemM} {t s x w i : Int}
theorem AFree.ms (h : AFree c L M) (m : MS c (lns c).toNat M M') (z : LogZ c M') (g : ∀ s ∈ L, M'.peek (lns c).toNat (genS c s) = M.peek (lns c).toNat (genS c s)) : AFree c L M' :=
 ⟨m.good, by rw [m.pl]; exact h.pl, z, by rw [m.top]; exact ChainF.ext (fun s hs => (m.aft s (h.rg s hs).1 (h.rg s hs).2).symm) h.ch, h.rg, h.nd, fun s hs => by rw [g s hs]; exact h.gens s hs⟩
theorem AFree.load (hth : 1 ≤ c.th) (h : AFree c L M) : AFree c L (M.accL (lns c).toNat t i).1 := h.ms (MS.load hth h.good) h.z.load (fun _ _ => rfl)
theorem AFree.flush (hc : cfgOk c) (hth : 1 ≤ c.th) (h : AFree c L M) : AFree c L (M.accF (lns c).toNat c.th.toNat t i).1 := h.ms (.of hth (accF_goodA h.good) accF_pass (fun _ _ => accF_pk)) (h.z.flush hc) (fun _ _ => accF_pk)
theorem AFree.fence (hc : cfgOk c) (hth : 1 ≤ c.th) (h : AFree c L M) : AFree c L (M.accE c.th.toNat t).1 := h.ms (.of hth (accE_goodA h.good) accE_pass (fun _ _ => accE_pk)) (h.z.fence hc) (fun _ _ => accE_pk)
theorem AFree.int (hc : cfgOk c) (ht : 0 ≤ t ∧ t < c.th) (h : AFree c L M) (hw : isW w) : AFree c L (M.accS (lns c).toNat x (intS c t) w).1 := by
 obtain ⟨hi1, hi2, hi3, hi4⟩ := int_at hc ht
 have hb := lay_bd hc
 refine h.ms (MS.put (by unfold cfgOk at hc; omega) h.good h.z.ok ⟨hi2, hi3⟩ hw) (h.z.put hc ⟨hi2, hi3⟩ (.inl hi4)) (fun s hs => ?_)
 obtain ⟨hg1, hg2, hg3, hg4⟩ := gen_at hc (h.rg s hs)
 have h2 : 0 ≤ tl c := by unfold cfgOk at hc; unfold tl; exact Int.mul_nonneg (by omega) (by omega)
 rw [accS_pk h.z.ok.2.1 ⟨hi2, hi3⟩, if_neg (by omega)]
theorem AFree.gen (hc : cfgOk c) (hs : 0 ≤ s ∧ s < c.sl) (hn : ¬ s ∈ L) (h : AFree c L M) (hw : isW w) : AFree c L (M.accS (lns c).toNat x (genS c s) w).1 := by
 obtain ⟨hi1, hi2, hi3, hi4⟩ := gen_at hc hs
 refine h.ms (MS.put (by unfold cfgOk at hc; omega) h.good h.z.ok ⟨hi2, hi3⟩ hw) (h.z.put hc ⟨hi2, hi3⟩ (.inr hi4)) (fun s' hs' => ?_)
 obtain ⟨hg1, _⟩ := gen_at hc (h.rg s' hs')
 have hne : s' ≠ s := fun e => hn (e ▸ hs')
 rw [accS_pk h.z.ok.2.1 ⟨hi2, hi3⟩, if_neg (by omega)]
theorem AFree.swap (hc : cfgOk c) (h : AFree c (s :: L) M) (hw : topW (lns c).toNat M = w) : AFree c L (M.accW (lns c).toNat t (-2) w (newerI (toI (aftW c (lns c).toNat M s)) w)).1 ∧ (M.accW (lns c).toNat t (-2) w (newerI (toI (aftW c (lns c).toNat M s)) w)).2.done = true := by
 have hcc := hc
 unfold cfgOk at hcc
 have hpt := peek_top (c := c) (n := (lns c).toNat) h.pl ⟨by omega, by omega⟩
 have hp2 : M.peek (lns c).toNat (-2) = some w := by rw [hpt, hw]
 have pk : ∀ i : Int, (M.accW (lns c).toNat t (-2) w (newerI (toI (aftW c (lns c).toNat M s)) w)).1.peek (lns c).toNat i = if i = -2 ∧ M.peek (lns c).toNat (-2) = some w then some (newerI (toI (aftW c (lns c).toNat M s)) w) else M.peek (lns c).toNat i := fun i => accW_peek (by omega)
 have ht2 : topW (lns c).toNat (M.accW (lns c).toNat t (-2) w (newerI (toI (aftW c (lns c).toNat M s)) w)).1 = newerI (toI (aftW c (lns c).toNat M s)) w := by unfold topW; rw [pk, if_pos ⟨rfl, hp2⟩]; rfl
 have haf : ∀ q, 0 ≤ q → q < c.sl → aftW c (lns c).toNat (M.accW (lns c).toNat t (-2) w (newerI (toI (aftW c (lns c).toNat M s)) w)).1 q = aftW c (lns c).toNat M q := fun q h1 h2 => by
  show (MemM.peek _ _ (aftS c q)).getD 0 = (MemM.peek _ _ (aftS c q)).getD 0
  rw [aft_at ⟨h1, h2⟩, pk, if_neg (by omega)]
 have hnd := List.nodup_cons.1 h.nd
 refine ⟨⟨accW_good h.good (newerI_w _ _), by rw [accW_pass]; exact h.pl, h.z.swap hc (by omega), ?_, fun q hq => h.rg q (by simp [hq]), hnd.2, fun q hq => ?_⟩, ?_⟩
 ·rw [ht2]
  exact ChainF.word (w := aftW c (lns c).toNat M s) (toI_newer ⟨toI_ge _, toI_lt _⟩).symm (ChainF.ext (fun q hq => (haf q (h.rg q (by simp [hq])).1 (h.rg q (by simp [hq])).2).symm) h.ch.2)
 ·obtain ⟨_, hg2, _⟩ := gen_at hc (h.rg q (by simp [hq]))
  rw [pk, if_neg (by omega)]; exact h.gens q (by simp [hq])
 ·show (M.peek (lns c).toNat (-2) == some w) = true
  rw [hp2]; simp
theorem tk_on {n nt : Nat} {S : TkS} {P : PopS} (h : S.part = 1 ∨ S.part = 4) (e : popStep c n S.pop M = (P, M')) (hn : ¬ P.pc = 3) : tkStep c n nt S M = (⟨S.t, S.part, S.again, S.slot, S.gen, S.empty, P, S.adv, S.rc⟩, M') := by
 rw [tkS1 h, e]
 show (tkPop S P M'.clock, M') = _
 unfold tkPop; rw [if_neg hn]
theorem tk_got {n nt : Nat} {S : TkS} {P : PopS} (h : S.part = 1 ∨ S.part = 4) (e : popStep c n S.pop M = (P, M')) (hn : P.pc = 3) (hs : ¬ P.slot = -1) : tkStep c n nt S M = (⟨S.t, 5, S.again, P.slot, S.gen, S.empty, P, S.adv, S.rc⟩, M') := by
 rw [tkS1 h, e]
 show (tkPop S P M'.clock, M') = _
 unfold tkPop; rw [if_pos hn, if_pos hs]
theorem tkIt_done {n nt : Nat} {S : TkS} {i : Nat} (h : (tkIt c n nt S M i).1.part = 0) : ∀ k, tkIt c n nt S M (i + k) = tkIt c n nt S M i
 | 0 => rfl
 | k + 1 => by
  show tkStep c n nt (tkIt c n nt S M (i + k)).1 (tkIt c n nt S M (i + k)).2 = _
  rw [tkIt_done h k]; exact tkS0 h
theorem inc64x_small (h : 0 ≤ s ∧ s < 65536) : inc64x s = s + 1 := by unfold inc64x; rw [wrapU, wrapU]; omega
/-- alone, a Take takes the first in eight steps -/
theorem alone_take (hc : cfgOk c) (ht : 0 ≤ t ∧ t < c.th) (h : AFree c (s :: L) M) :
  (tkIt c (lns c).toNat c.th.toNat (tkInit t) M 12).1.part = 0 ∧ (tkIt c (lns c).toNat c.th.toNat (tkInit t) M 12).1.slot = s ∧ AFree c L (tkIt c (lns c).toNat c.th.toNat (tkInit t) M 12).2 ∧ (tkIt c (lns c).toNat c.th.toNat (tkInit t) M 12).2.peek (lns c).toNat (genS c s) = some 1 ∧ (tkIt c (lns c).toNat c.th.toNat (tkInit t) M 12).2.dev.kept.getD (intS c t).toNat 0 = s + 1 := by
 have hcc := hc
 unfold cfgOk at hcc
 have hth : 1 ≤ c.th := by omega
 have hsr := h.rg s (by simp)
 have hnd := List.nodup_cons.1 h.nd
 have hts : toI (topW (lns c).toNat M) = s := h.ch.1
 obtain ⟨hi1, hi2, hi3, hi4⟩ := int_at hc ht
 obtain ⟨hg1, hg2, hg3, hg4⟩ := gen_at hc hsr
 have hb := lay_bd hc
 have htl : 0 ≤ tl c := by unfold tl; exact Int.mul_nonneg (by omega) (by omega)
 have hgen0 := h.gens s (by simp)
 generalize hw : topW (lns c).toNat M = w at hts
 have e1 : tkIt c (lns c).toNat c.th.toNat (tkInit t) M 1 = (⟨t, 1, false, -1, 0, -1, ⟨t, 1, w, 0, -1⟩, tkAdv0 t, tkRec0 t⟩, (M.accL (lns c).toNat t (-2)).1) :=
  tk_on (S := tkInit t) (.inl rfl) (P := ⟨t, 1, w, 0, -1⟩) (by
   show popStep c (lns c).toNat ⟨t, 0, 0, 0, -1⟩ M = _
   unfold popStep
   rw [if_neg (by show ¬ (0 : Int) = 3; decide), if_pos rfl]
   show (PopS.mk t (if toI (topW (lns c).toNat M) = -1 then 3 else 1) (topW (lns c).toNat M) 0 (-1), _) = _
   rw [hw, if_neg (by omega)]) (by show ¬ (1 : Int) = 3; decide)
 have a1 : AFree c (s :: L) (M.accL (lns c).toNat t (-2)).1 := h.load hth
 have w1 : topW (lns c).toNat (M.accL (lns c).toNat t (-2)).1 = w := hw
 have q1 : (M.accL (lns c).toNat t (-2)).1.peek (lns c).toNat (genS c s) = some 0 := hgen0
 generalize (M.accL (lns c).toNat t (-2)).1 = M1 at e1 a1 w1 q1
 have e2 : tkIt c (lns c).toNat c.th.toNat (tkInit t) M 2 = (⟨t, 1, false, -1, 0, -1, ⟨t, 2, w, aftW c (lns c).toNat M1 s, -1⟩, tkAdv0 t, tkRec0 t⟩, (M1.accL (lns c).toNat t (aftS c s)).1) := by
  show tkStep c (lns c).toNat c.th.toNat (tkIt c (lns c).toNat c.th.toNat (tkInit t) M 1).1 (tkIt c (lns c).toNat c.th.toNat (tkInit t) M 1).2 = _
  rw [e1]
  refine tk_on (.inl rfl) (P := ⟨t, 2, w, aftW c (lns c).toNat M1 s, -1⟩) ?_ (by show ¬ (2 : Int) = 3; decide)
  show popStep c (lns c).toNat ⟨t, 1, w, 0, -1⟩ M1 = _
  unfold popStep
  rw [if_neg (by show ¬ (1 : Int) = 3; decide), if_neg (by show ¬ (1 : Int) = 0; decide), if_pos rfl]
  show (PopS.mk t 2 w (aftW c (lns c).toNat M1 (toI w)) (-1), (M1.accL (lns c).toNat t (aftS c (toI w))).1) = _
  rw [hts]
 have a2 : AFree c (s :: L) (M1.accL (lns c).toNat t (aftS c s)).1 := a1.load hth
 have w2 : topW (lns c).toNat (M1.accL (lns c).toNat t (aftS c s)).1 = w := w1
 have x2 : aftW c (lns c).toNat (M1.accL (lns c).toNat t (aftS c s)).1 s = aftW c (lns c).toNat M1 s := rfl
 have q2 : (M1.accL (lns c).toNat t (aftS c s)).1.peek (lns c).toNat (genS c s) = some 0 := q1
 generalize (M1.accL (lns c).toNat t (aftS c s)).1 = M2 at e2 a2 w2 q2 x2
 rw [← x2] at e2
 obtain ⟨a3, d3⟩ := a2.swap (t := t) hc w2
 have e3 : tkIt c (lns c).toNat c.th.toNat (tkInit t) M 3 = (⟨t, 5, false, s, 0, -1, ⟨t, 3, w, aftW c (lns c).toNat M2 s, s⟩, tkAdv0 t, tkRec0 t⟩, (M2.accW (lns c).toNat t (-2) w (newerI (toI (aftW c (lns c).toNat M2 s)) w)).1) := by
  show tkStep c (lns c).toNat c.th.toNat (tkIt c (lns c).toNat c.th.toNat (tkInit t) M 2).1 (tkIt c (lns c).toNat c.th.toNat (tkInit t) M 2).2 = _
  rw [e2]
  refine tk_got (.inl rfl) (P := ⟨t, 3, w, aftW c (lns c).toNat M2 s, s⟩) ?_ rfl (by show ¬ s = -1; omega)
  show popStep c (lns c).toNat ⟨t, 2, w, aftW c (lns c).toNat M2 s, -1⟩ M2 = _
  unfold popStep
  rw [if_neg (by show ¬ (2 : Int) = 3; decide), if_neg (by show ¬ (2 : Int) = 0; decide), if_neg (by show ¬ (2 : Int) = 1; decide), if_pos d3]
  show (PopS.mk t 3 w (aftW c (lns c).toNat M2 s) (toI w), _) = _
  rw [hts]
 have q3 : (M2.accW (lns c).toNat t (-2) w (newerI (toI (aftW c (lns c).toNat M2 s)) w)).1.peek (lns c).toNat (genS c s) = some 0 := by rw [accW_peek (by omega), if_neg (by omega)]; exact q2
 generalize (M2.accW (lns c).toNat t (-2) w (newerI (toI (aftW c (lns c).toNat M2 s)) w)).1 = M3 at e3 a3 q3
 generalize (⟨t, 3, w, aftW c (lns c).toNat M2 s, s⟩ : PopS) = P3 at e3
 have e4 : tkIt c (lns c).toNat c.th.toNat (tkInit t) M 4 = (⟨t, 6, false, s, 0, -1, P3, tkAdv0 t, tkRec0 t⟩, (M3.accS (lns c).toNat t (intS c t) (inc64x s)).1) := by
  show tkStep c (lns c).toNat c.th.toNat (tkIt c (lns c).toNat c.th.toNat (tkInit t) M 3).1 (tkIt c (lns c).toNat c.th.toNat (tkInit t) M 3).2 = _
  rw [e3]; exact tkS5 rfl
 rw [inc64x_small (by omega)] at e4
 have a4 : AFree c L (M3.accS (lns c).toNat t (intS c t) (s + 1)).1 := a3.int hc ht (by unfold isW; omega)
 have q4 : (M3.accS (lns c).toNat t (intS c t) (s + 1)).1.peek (lns c).toNat (genS c s) = some 0 := by rw [accS_pk a3.z.ok.2.1 ⟨hi2, hi3⟩, if_neg (by omega)]; exact q3
 have k4 : (M3.accS (lns c).toNat t (intS c t) (s + 1)).1.peek (lns c).toNat (intS c t) = some (s + 1) := by rw [accS_pk a3.z.ok.2.1 ⟨hi2, hi3⟩, if_pos rfl]
 generalize (M3.accS (lns c).toNat t (intS c t) (s + 1)).1 = M4 at e4 a4 q4 k4
 have e5 : tkIt c (lns c).toNat c.th.toNat (tkInit t) M 5 = (⟨t, 7, false, s, 0, -1, P3, tkAdv0 t, tkRec0 t⟩, (M4.accF (lns c).toNat c.th.toNat t (intS c t)).1) := by
  show tkStep c (lns c).toNat c.th.toNat (tkIt c (lns c).toNat c.th.toNat (tkInit t) M 4).1 (tkIt c (lns c).toNat c.th.toNat (tkInit t) M 4).2 = _
  rw [e4]; exact tkS6 rfl
 have hi23 : 0 ≤ intS c t ∧ intS c t < (((lns c).toNat : Nat) : Int) * 8 := ⟨hi2, hi3⟩
 have htt : 0 ≤ t ∧ t < ((c.th.toNat : Nat) : Int) := by omega
 have a5 : AFree c L (M4.accF (lns c).toNat c.th.toNat t (intS c t)).1 := a4.flush hc hth
 have q5 : (M4.accF (lns c).toNat c.th.toNat t (intS c t)).1.peek (lns c).toNat (genS c s) = some 0 := accF_pk.trans q4
 have k5 : (M4.accF (lns c).toNat c.th.toNat t (intS c t)).1.peek (lns c).toNat (intS c t) = some (s + 1) := accF_pk.trans k4
 have f5 : ((M4.accF (lns c).toNat c.th.toNat t (intS c t)).1.dev.flush.getD t.toNat []).getD (intS c t / 8).toNat false = true := by
  rw [accF_in hi23 htt]
  have hok := a4.z.ok
  have hB := hok.getB (q := t.toNat) (by omega)
  show ((M4.dev.mark t.toNat (intS c t / 8).toNat).flush.getD t.toNat []).getD (intS c t / 8).toNat false = true
  rw [show (M4.dev.mark t.toNat (intS c t / 8).toNat).flush.getD t.toNat [] = (M4.dev.flush.getD t.toNat []).set (intS c t / 8).toNat true from set_ok_get (by rw [hok.2.2.2.1]; omega)]
  exact getD_set_self (by omega)
 generalize (M4.accF (lns c).toNat c.th.toNat t (intS c t)).1 = M5 at e5 a5 q5 k5 f5
 have e6 : tkIt c (lns c).toNat c.th.toNat (tkInit t) M 6 = (⟨t, 8, false, s, 0, -1, P3, tkAdv0 t, tkRec0 t⟩, (M5.accE c.th.toNat t).1) := by
  show tkStep c (lns c).toNat c.th.toNat (tkIt c (lns c).toNat c.th.toNat (tkInit t) M 5).1 (tkIt c (lns c).toNat c.th.toNat (tkInit t) M 5).2 = _
  rw [e5]; exact tkS7 rfl
 have a6 : AFree c L (M5.accE c.th.toNat t).1 := a5.fence hc hth
 have q6 : (M5.accE c.th.toNat t).1.peek (lns c).toNat (genS c s) = some 0 := accE_pk.trans q5
 have k6 : (M5.accE c.th.toNat t).1.dev.kept.getD (intS c t).toNat 0 = s + 1 := by
  rw [accE_in htt]
  show (M5.dev.fence t.toNat).kept.getD (intS c t).toNat 0 = s + 1
  rw [fence_kept a5.z.ok hi23 (by omega), if_pos f5]
  rw [peek_dev hi23] at k5
  exact Option.some.inj k5
 generalize (M5.accE c.th.toNat t).1 = M6 at e6 a6 q6 k6
 have e7 : tkIt c (lns c).toNat c.th.toNat (tkInit t) M 7 = (⟨t, 9, false, s, 0, -1, P3, tkAdv0 t, tkRec0 t⟩, (M6.accL (lns c).toNat t (genS c s)).1) := by
  show tkStep c (lns c).toNat c.th.toNat (tkIt c (lns c).toNat c.th.toNat (tkInit t) M 6).1 (tkIt c (lns c).toNat c.th.toNat (tkInit t) M 6).2 = _
  rw [e6]
  refine (tkS8 rfl).trans ?_
  show (TkS.mk t 9 false s ((M6.peek (lns c).toNat (genS c s)).getD 0) (-1) P3 (tkAdv0 t) (tkRec0 t), _) = _
  rw [q6]; rfl
 have a7 : AFree c L (M6.accL (lns c).toNat t (genS c s)).1 := a6.load hth
 have k7 : (M6.accL (lns c).toNat t (genS c s)).1.dev.kept.getD (intS c t).toNat 0 = s + 1 := k6
 generalize (M6.accL (lns c).toNat t (genS c s)).1 = M7 at e7 a7 k7
 have e8 : tkIt c (lns c).toNat c.th.toNat (tkInit t) M 8 = (⟨t, 0, false, s, 0, -1, P3, tkAdv0 t, tkRec0 t⟩, (M7.accS (lns c).toNat t (genS c s) 1).1) := by
  show tkStep c (lns c).toNat c.th.toNat (tkIt c (lns c).toNat c.th.toNat (tkInit t) M 7).1 (tkIt c (lns c).toNat c.th.toNat (tkInit t) M 7).2 = _
  rw [e7]; exact tkS9 rfl
 have e12 := tkIt_done (c := c) (n := (lns c).toNat) (nt := c.th.toNat) (S := tkInit t) (M := M) (i := 8) (by rw [e8]) 4
 rw [e12, e8]
 exact ⟨rfl, rfl, a7.gen hc hsr hnd.1 (by unfold isW; omega), by rw [accS_pk a7.z.ok.2.1 ⟨hg2, hg3⟩, if_pos rfl], by rw [accS_kept]; exact k7⟩
/-- where none is free: behind so many steps -/
structure NoneI (c : Cfg) (t : Int) (k : Nat) (S : TkS) (M : MemM) : Prop where
 al : AFree c [] M
 tt : S.t = t
 good : TkG c S
 slot : S.slot = -1
 st : (S.part = 1 ∧ k = 0 ∧ S.pop.pc = 0 ∧ S.pop.slot = -1 ∧ S.again = false) ∨ (S.part = 2 ∧ S.adv.done = false ∧ (S.adv.pc = 0 ∧ k = 1 ∨ S.adv.pc = 1 ∧ (k : Int) = 2 + S.adv.next ∧ S.adv.next ≤ c.th))
  ∨ (S.part = 3 ∧ S.rc.t = t ∧ (S.rc.pc = 0 ∧ k ≤ 10 ∨ S.rc.pc = 1 ∧ (k : Int) ≤ 11 + S.rc.next ∧ S.rc.next < c.lo)) ∨ (S.part = 4 ∧ S.pop.pc = 0 ∧ S.pop.slot = -1 ∧ k ≤ 20) ∨ (S.part = 0 ∧ S.empty = M.clock)
theorem NoneI.start (hc : cfgOk c) (ht : 0 ≤ t ∧ t < c.th) (h : AFree c [] M) : NoneI c t 0 (tkInit t) M := by
 have hcc := hc
 unfold cfgOk at hcc
 exact ⟨h, rfl, TkG.init hc (by omega), rfl, .inl ⟨rfl, rfl, rfl, rfl, rfl⟩⟩
theorem pop_no {n : Nat} {S : PopS} (hp : S.pc = 0) (h : toI (topW n M) = -1) : popStep c n S M = (⟨S.t, 3, topW n M, S.next, S.slot⟩, (M.accL n S.t (-2)).1) := by
 unfold popStep
 rw [if_neg (by omega), if_pos hp]
 show (PopS.mk S.t (if toI (topW n M) = -1 then 3 else 1) (topW n M) S.next S.slot, _) = _
 rw [if_pos h]
theorem NoneI.next {k : Nat} {S : TkS} (hc : cfgOk c) (h6 : c.th ≤ 6 ∧ c.lo ≤ 8) (ht : 0 ≤ t ∧ t < c.th) (I : NoneI c t k S M) : NoneI c t (k + 1) (tkStep c (lns c).toNat c.th.toNat S M).1 (tkStep c (lns c).toNat c.th.toNat S M).2 := by
 obtain ⟨hal, hS, hSg, hsl, hst⟩ := I
 have hcc := hc
 unfold cfgOk at hcc
 have hth : 1 ≤ c.th := by omega
 obtain ⟨hXg, hXm⟩ := TkG.step (n := (lns c).toNat) (nt := c.th.toNat) hc hSg hal.good
 have hno : toI (topW (lns c).toNat M) = -1 := hal.ch
 have hempty : ∀ {M' : MemM}, MS c (lns c).toNat M M' → LogZ c M' → AFree c [] M' := fun m z => hal.ms m z (fun _ h => by cases h)
 rcases hst with ⟨hp, hk, hpc, hps, hag⟩ | ⟨hp, hd, hpc⟩ | ⟨hp, hrt, hpc⟩ | ⟨hp, hpc, hps, hk⟩ | ⟨hp, he⟩
 ·have e : tkStep c (lns c).toNat c.th.toNat S M = (⟨S.t, 2, true, -1, S.gen, S.empty, ⟨S.pop.t, 3, topW (lns c).toNat M, S.pop.next, S.pop.slot⟩, tkAdv0 S.t, S.rc⟩, (M.accL (lns c).toNat S.pop.t (-2)).1) := by
   rw [tkS1 (.inl hp), pop_no hpc hno]
   show (tkPop S ⟨S.pop.t, 3, topW (lns c).toNat M, S.pop.next, S.pop.slot⟩ _, _) = _
   unfold tkPop
   rw [if_pos rfl, if_neg (fun h => h hps), if_neg (by rw [hag]; decide)]
  rw [e] at hXg hXm ⊢
  exact ⟨hal.load hth, hS, hXg, rfl, .inr (.inl ⟨rfl, rfl, .inl ⟨rfl, by omega⟩⟩)⟩
 ·have hz := hal.z.adv hc (S := S.adv)
  have hms := MS.adv hc (M := M) hSg.good.adv hal.good
  have hag : AFree c [] (advStep c (lns c).toNat S.adv M).2 := hempty hms hz
  have e0 := tkS2 (c := c) (n := (lns c).toNat) (nt := c.th.toNat) (M := M) hp
  have hnx : (advStep c (lns c).toNat S.adv M).1.done = true ∨ (advStep c (lns c).toNat S.adv M).1.done = false ∧ (advStep c (lns c).toNat S.adv M).1.pc = 1 ∧ ((k + 1 : Nat) : Int) = 2 + (advStep c (lns c).toNat S.adv M).1.next ∧ (advStep c (lns c).toNat S.adv M).1.next ≤ c.th := by
   have hgd := hSg.good.adv.2.2.2
   rcases hpc with ⟨h0, h1⟩ | ⟨h0, h1, h2⟩
   ·have e1 : advStep c (lns c).toNat S.adv M = (⟨S.adv.t, S.adv.done, 1, (M.accL (lns c).toNat S.adv.t (-1)).2.old, S.adv.next, S.adv.moved⟩, (M.accL (lns c).toNat S.adv.t (-1)).1) := by unfold advStep; rw [if_neg (by rw [hd]; decide), if_pos h0]
    rw [e1]
    have hn0 : S.adv.next = 0 := by
     rcases hgd with h | h | h
     ·rw [hd] at h; cases h
     ·exact h.2
     ·omega
    exact .inr ⟨hd, rfl, by show ((k + 1 : Nat) : Int) = 2 + S.adv.next; omega, by show S.adv.next ≤ c.th; omega⟩
   ·by_cases hlt : S.adv.next < c.th
    ·have e1 : advStep c (lns c).toNat S.adv M = askS c (lns c).toNat S.adv M := by unfold advStep; rw [if_neg (by rw [hd]; decide), if_neg (by omega), if_pos hlt]
     rw [e1]
     by_cases hdd : (askS c (lns c).toNat S.adv M).1.done = true
     ·exact .inl hdd
     ·exact .inr ⟨by simpa using hdd, h0, by show ((k + 1 : Nat) : Int) = 2 + (S.adv.next + 1); omega, by show S.adv.next + 1 ≤ c.th; omega⟩
    ·exact .inl (by unfold advStep; rw [if_neg (by rw [hd]; decide), if_neg (by omega), if_neg hlt])
  have hk9 : k ≤ 8 := by omega
  generalize advStep c (lns c).toNat S.adv M = A at e0 hnx hag
  by_cases hdd : A.1.done = true
  ·have e : tkStep c (lns c).toNat c.th.toNat S M = (⟨S.t, 3, S.again, S.slot, S.gen, S.empty, S.pop, A.1, tkRec0 S.t⟩, A.2) := by rw [e0, show tkAdv S A.1 = _ from if_pos hdd]
   rw [e] at hXg hXm ⊢
   exact ⟨hag, hS, hXg, hsl, .inr (.inr (.inl ⟨rfl, hS, .inl ⟨rfl, by omega⟩⟩))⟩
  ·have e : tkStep c (lns c).toNat c.th.toNat S M = (⟨S.t, S.part, S.again, S.slot, S.gen, S.empty, S.pop, A.1, S.rc⟩, A.2) := by rw [e0, show tkAdv S A.1 = _ from if_neg hdd]
   rw [e] at hXg hXm ⊢
   obtain ⟨h1, h2, h3, h4⟩ := hnx.resolve_left hdd
   exact ⟨hag, hS, hXg, hsl, .inr (.inl ⟨hp, h1, .inr ⟨h2, h3, h4⟩⟩)⟩
 ·have hrg := hSg.good.rc
  have e0 := tkS3 (c := c) (n := (lns c).toNat) (nt := c.th.toNat) (M := M) hp
  have hrs : ∃ (R : RecS) (i : Int), recStep c (lns c).toNat S.rc M = (R, (M.accL (lns c).toNat S.rc.t i).1) ∧ R.t = t ∧ (R.pc = 5 ∧ k ≤ 19 ∨ R.pc = 1 ∧ ((k + 1 : Nat) : Int) ≤ 11 + R.next ∧ R.next < c.lo) := by
   rcases hpc with ⟨hr, hk⟩ | ⟨hr, hk, hnx⟩
   ·have hn0 : S.rc.next = 0 := by rcases hrg.2.2.2.2.2 with h | h | h | h | h <;> omega
    exact ⟨⟨S.rc.t, 1, (M.accL (lns c).toNat S.rc.t (-1)).2.old, S.rc.next, S.rc.slot, S.rc.count, S.rc.push⟩, -1, by unfold recStep; rw [if_neg (by omega), if_pos hr], hrt, .inr ⟨rfl, by show ((k + 1 : Nat) : Int) ≤ 11 + S.rc.next; omega, by show S.rc.next < c.lo; omega⟩⟩
   ·have hold : ¬ recOld S.rc.now (recLd c (lns c).toNat S.rc M).2.old := by
     rw [show (recLd c (lns c).toNat S.rc M).2.old = 0 by
      show (M.peek (lns c).toNat (logS c S.rc.t S.rc.next)).getD 0 = 0
      rw [hal.z.lg _ _ (by omega) (by omega) hrg.2.2.2.1.1 hnx]; rfl]
     exact fun h => h.1 rfl
    refine ⟨⟨S.rc.t, onPc c (S.rc.next + 1), S.rc.now, S.rc.next + 1, S.rc.slot, S.rc.count, S.rc.push⟩, logS c S.rc.t S.rc.next, by unfold recStep; rw [if_neg (by omega), if_neg (by omega), if_pos hr]; unfold recLook; rw [if_neg hold]; rfl, hrt, ?_⟩
    show onPc c (S.rc.next + 1) = 5 ∧ k ≤ 19 ∨ onPc c (S.rc.next + 1) = 1 ∧ ((k + 1 : Nat) : Int) ≤ 11 + (S.rc.next + 1) ∧ S.rc.next + 1 < c.lo
    unfold onPc; split
    ·exact .inr ⟨rfl, by omega, by omega⟩
    ·exact .inl ⟨rfl, by omega⟩
  obtain ⟨R, i, er, hRt, hRp⟩ := hrs
  rw [er] at e0
  have hal2 : AFree c [] (M.accL (lns c).toNat S.rc.t i).1 := hal.load hth
  by_cases hdd : R.done = true
  ·have h5 : R.pc = 5 := of_decide_eq_true hdd
   have e : tkStep c (lns c).toNat c.th.toNat S M = (⟨S.t, 4, S.again, S.slot, S.gen, S.empty, tkPop0 S.t, S.adv, R⟩, (M.accL (lns c).toNat S.rc.t i).1) := by rw [e0, show tkRec S R = _ from if_pos hdd]
   rw [e] at hXg hXm ⊢
   exact ⟨hal2, hS, hXg, hsl, .inr (.inr (.inr (.inl ⟨rfl, rfl, rfl, by omega⟩)))⟩
  ·have hn5 : ¬ R.pc = 5 := fun h => hdd (decide_eq_true h)
   have e : tkStep c (lns c).toNat c.th.toNat S M = (⟨S.t, S.part, S.again, S.slot, S.gen, S.empty, S.pop, S.adv, R⟩, (M.accL (lns c).toNat S.rc.t i).1) := by rw [e0, show tkRec S R = _ from if_neg hdd]
   rw [e] at hXg hXm ⊢
   exact ⟨hal2, hS, hXg, hsl, .inr (.inr (.inl ⟨hp, hRt, .inr (hRp.resolve_left (fun h => hn5 h.1))⟩))⟩
 ·have hag := hSg.good.ag.2 (.inr (.inr hp))
  have e : tkStep c (lns c).toNat c.th.toNat S M = (⟨S.t, 0, S.again, -1, S.gen, (M.accL (lns c).toNat S.pop.t (-2)).1.clock, ⟨S.pop.t, 3, topW (lns c).toNat M, S.pop.next, S.pop.slot⟩, S.adv, S.rc⟩, (M.accL (lns c).toNat S.pop.t (-2)).1) := by
   rw [tkS1 (.inr hp), pop_no hpc hno]
   show (tkPop S ⟨S.pop.t, 3, topW (lns c).toNat M, S.pop.next, S.pop.slot⟩ _, _) = _
   unfold tkPop
   rw [if_pos rfl, if_neg (fun h => h hps), if_pos hag]
  rw [e] at hXg hXm ⊢
  exact ⟨hal.load hth, hS, hXg, rfl, .inr (.inr (.inr (.inr ⟨rfl, rfl⟩)))⟩
 ·have e := tkS0 (c := c) (n := (lns c).toNat) (nt := c.th.toNat) (M := M) hp
  rw [e]
  exact ⟨hal, hS, hSg, hsl, .inr (.inr (.inr (.inr ⟨hp, he⟩)))⟩
theorem NoneI.it (hc : cfgOk c) (h6 : c.th ≤ 6 ∧ c.lo ≤ 8) (ht : 0 ≤ t ∧ t < c.th) (h : AFree c [] M) : ∀ k, NoneI c t k (tkIt c (lns c).toNat c.th.toNat (tkInit t) M k).1 (tkIt c (lns c).toNat c.th.toNat (tkInit t) M k).2
 | 0 => NoneI.start hc ht h
 | k + 1 => (NoneI.it hc h6 ht h k).next hc h6 ht
theorem alone_none12 (hc : cfgOk c) (h6 : c.th ≤ 6 ∧ c.lo ≤ 8) (ht : 0 ≤ t ∧ t < c.th) (h : AFree c [] M) : (tkIt c (lns c).toNat c.th.toNat (tkInit t) M 60).1.part = 0 ∧ (tkIt c (lns c).toNat c.th.toNat (tkInit t) M 60).1.slot = -1 ∧ (tkIt c (lns c).toNat c.th.toNat (tkInit t) M 60).1.empty = (tkIt c (lns c).toNat c.th.toNat (tkInit t) M 60).2.clock := by
 obtain ⟨_, _, _, h1, h2⟩ := NoneI.it hc h6 ht h 60
 rcases h2 with ⟨_, h, _⟩ | ⟨_, _, h⟩ | ⟨_, _, h⟩ | ⟨_, _, _, h⟩ | ⟨h, h3⟩
 ·omega
 ·omega
 ·omega
 ·omega
 ·exact ⟨h, h1, h3⟩
end
end Go.Proofs.YtbfafebfkdbglaaGreat
