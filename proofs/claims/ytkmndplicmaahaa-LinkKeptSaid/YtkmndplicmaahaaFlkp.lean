/- Links: whatever is seen clean is kept (plain laws). -/
import Derived.Test.YtkmndplicmaahaaFlw
namespace Go.Proofs.Ytkmndplicmaahaa
open Go.RowKit
set_option linter.unusedVariables false
attribute [local irreducible] K.KW K.RW K.DW K.OW K.QR K.KC
def sn (M : MemM) (k : Int) : Int := M.dev.seen.getD k.toNat 0
def kp (M : MemM) (k : Int) : Int := M.dev.kept.getD k.toNat 0
def fl (M : MemM) (t : Nat) (q : Int) : Bool := (M.dev.flush.getD t []).getD q.toNat false
def in8 (k : Int) : Prop := 20 ≤ k ∧ k < 28
/-- what a step of thread t in pick i may do to the device -/
def Mv (i t : Nat) (M M' : MemM) : Prop := (∀ t' q, t' ≠ t → fl M t' q = true → fl M' t' q = true) ∧
 ∀ k, in8 k → (sn M' k = sn M k ∧ (kp M' k = kp M k ∨ kp M' k = sn M k)) ∨ (kp M' k = kp M k ∧ ((isL (sn M' k) ∧ cleanI (kp M k) = sn M' k ∧ sn M' k ≤ i) ∨ sn M' k = soilI ((i : Int) + 1)))
/-- of a machine's standing: its flag, what it is to swap clean is kept -/
def KPc (M : MemM) (t : Nat) (at_ pc word : Int) : Prop := (pc = 2 → fl M t (at_ / 8) = true) ∧ (pc = 3 → sn M at_ = soilI word → cleanI (kp M at_) = word)
structure KOne (i : Nat) (M : MemM) (t : Nat) (th at_ pc word : Int) : Prop where
 hth : th = (t : Int)
 ha : in8 at_
 hw : 0 ≤ word ∧ word ≤ i
 hpc : KPc M t at_ pc word
inductive HandK | no | rd (S : RdS) | se (S : SeS)
def HandK.done : HandK → Bool
 | .no => true
 | .rd S => S.done
 | .se S => S.done
def KH (i : Nat) (M : MemM) (t : Nat) : HandK → Prop
 | .no => True
 | .rd S => S.good ∧ KOne i M t S.t S.at_ S.pc S.word
 | .se S => S.good ∧ S.pc ≠ 0 ∧ KOne i M t S.t S.at_ S.pc S.word
structure KMem (n nt i : Nat) (M : MemM) : Prop where
 ok : M.dev.ok n nt
 good : M.good
 clean : ∀ k, in8 k → sn M k < 9223372036854775808 → cleanI (kp M k) = sn M k
 bound : ∀ k, in8 k → 0 ≤ sn M k ∧ cleanI (sn M k) ≤ i
section
variable {n nt i t t' : Nat} {M M' : MemM} {at_ pc word th : Int}
theorem Mv.same (h : M'.dev = M.dev) : Mv i t M M' := by
 refine ⟨fun t' q _ h' => by unfold fl at h' ⊢; rw [h]; exact h', fun k _ => .inl ⟨by unfold sn; rw [h], .inl (by unfold kp; rw [h])⟩⟩
theorem Mv.mem (h : Mv i t M M') (K : KMem n nt i M) (hi : i ≤ 1000) (hok : M'.dev.ok n nt) (hg : M'.good) : KMem n nt (i + 1) M' := by
 refine ⟨hok, hg, ?_, ?_⟩
 ·intro k hk hc
  rcases h.2 k hk with ⟨h1, h2 | h2⟩ | ⟨h1, h2 | h2⟩
  ·rw [h2, h1]; rw [h1] at hc; exact K.clean k hk hc
  ·rw [h2, h1]; rw [h1] at hc; have := (K.bound k hk).1; unfold cleanI; omega
  ·rw [h1]; exact h2.2.1
  ·rw [h2] at hc; unfold soilI at hc; omega
 ·intro k hk
  have := K.bound k hk
  rcases h.2 k hk with ⟨h1, _⟩ | ⟨_, h2 | h2⟩
  ·rw [h1]; omega
  ·have := h2.1; unfold isL at this; unfold cleanI; omega
  ·rw [h2]; unfold cleanI soilI; omega
theorem KPc.other (h : Mv i t M M') (ht : t' ≠ t) (ha : in8 at_) (hw : 0 ≤ word ∧ word ≤ i) (hi : i ≤ 1000) (H : KPc M t' at_ pc word) : KPc M' t' at_ pc word := by
 refine ⟨fun hp => h.1 _ _ ht (H.1 hp), fun hp hs => ?_⟩
 rcases h.2 at_ ha with ⟨h1, h2 | h2⟩ | ⟨h1, h2 | h2⟩
 ·rw [h2]; exact H.2 hp (by rw [← h1]; exact hs)
 ·rw [h2, ← h1, hs]; unfold cleanI soilI; omega
 ·have := h2.1; rw [hs] at this; unfold isL soilI at this; omega
 ·rw [hs] at h2; unfold soilI at h2; omega
theorem KH.other (h : Mv i t M M') (ht : t' ≠ t) (hi : i ≤ 1000) {x : HandK} (H : KH i M t' x) : KH (i + 1) M' t' x := by
 cases x with
 | no => trivial
 | rd S => exact ⟨H.1, H.2.hth, H.2.ha, ⟨H.2.hw.1, by have := H.2.hw.2; omega⟩, KPc.other h ht H.2.ha H.2.hw hi H.2.hpc⟩
 | se S => exact ⟨H.1, H.2.1, H.2.2.hth, H.2.2.ha, ⟨H.2.2.hw.1, by have := H.2.2.hw.2; omega⟩, KPc.other h ht H.2.2.ha H.2.2.hw hi H.2.2.hpc⟩
theorem sn_peek (hn : 8 ≤ n) {k : Int} (hk : in8 k) : M.peek n k = some (sn M k) := peek_dev (by unfold in8 at hk; omega)
/-- the device behind a fence -/
theorem fence_fl {D : DevM} {k q : Nat} (h : q ≠ k) : (D.fence k).flush.getD q [] = D.flush.getD q [] := by
 unfold DevM.fence
 rw [foldl_back_flush]
 unfold DevM.clear
 simp only [DevM.set, List.getD_eq_getElem?_getD, List.getElem?_set]
 rw [if_neg (fun e => h e.symm)]
theorem mark_fl {D : DevM} {k q t : Nat} {r : Nat} (h : (D.flush.getD t []).getD r false = true) : ((D.mark k q).flush.getD t []).getD r false = true := by
 unfold DevM.mark DevM.set
 simp only [List.getD_eq_getElem?_getD, List.getElem?_set] at h ⊢
 split
 ·rename_i e
  subst e
  split
  ·simp only [Option.getD_some, List.getElem?_set]
   split
   ·split
    ·rfl
    ·rename_i h1 h2 h3
     subst h2
     rw [List.getElem?_eq_none (by omega)] at h; exact absurd h (by simp)
   ·exact h
  ·rename_i h1
   have e2 := List.getElem?_eq_none (l := D.flush) (Nat.le_of_not_lt h1)
   rw [e2] at h; simp at h
 ·exact h
/-- the flush, the fence, the clean swap: what they do, and where the machine stands then -/
theorem last_step (hn : 8 ≤ n) (hi : i ≤ 1000) (K : KMem n nt i M) (H : KOne i M t th at_ pc word) (ht : t < nt) (hp : 1 ≤ pc ∧ pc ≤ 3) :
  Mv i t M (lastM n nt th at_ pc word M) ∧ (lastM n nt th at_ pc word M).dev.ok n nt ∧ (pc = 1 → fl (lastM n nt th at_ pc word M) t (at_ / 8) = true) ∧ (pc = 2 → sn (lastM n nt th at_ pc word M) at_ = soilI word → cleanI (kp (lastM n nt th at_ pc word M) at_) = word) := by
 have ha := H.ha
 unfold in8 at ha
 have hr : 0 ≤ at_ ∧ at_ < (n : Int) * 8 := by omega
 have hth : 0 ≤ th ∧ th < (nt : Int) := by have := H.hth; omega
 have ht2 : th.toNat = t := by have := H.hth; omega
 have hB := K.ok.getB (q := t) ht
 obtain h1 | h1 | h1 : pc = 1 ∨ pc = 2 ∨ pc = 3 := by omega
 ·subst h1
  have e : lastM n nt th at_ 1 word M = (M.accF n nt th at_).1 := by unfold lastM; rw [if_pos rfl]
  rw [e, accF_in hr hth, ht2]
  refine ⟨⟨fun t' q _ h' => mark_fl h', fun k _ => .inl ⟨rfl, .inl rfl⟩⟩, K.ok.mark ht, fun _ => ?_, fun h => absurd h (by decide)⟩
  show ((M.dev.mark t (at_ / 8).toNat).flush.getD t []).getD (at_ / 8).toNat false = true
  rw [show (M.dev.mark t (at_ / 8).toNat).flush.getD t [] = (M.dev.flush.getD t []).set (at_ / 8).toNat true from set_ok_get (by rw [K.ok.2.2.2.1]; exact ht)]
  exact getD_set_self (by omega)
 ·subst h1
  have e : lastM n nt th at_ 2 word M = (M.accE nt th).1 := by unfold lastM; rw [if_neg (by decide), if_pos rfl]
  rw [e, accE_in hth, ht2]
  have hkp : ∀ k, 0 ≤ k ∧ k < (n : Int) * 8 → (M.dev.fence t).kept.getD k.toNat 0 = if fl M t (k / 8) = true then sn M k else kp M k := fun k hk => fence_kept K.ok hk ht
  have hsn : ∀ k, (M.dev.fence t).seen.getD k 0 = M.dev.seen.getD k 0 := fun k => by rw [DevM.fence_seen]
  refine ⟨⟨fun t' q hne h' => ?_, fun k hk => .inl ⟨hsn _, ?_⟩⟩, K.ok.fence ht, fun h => absurd h (by decide), fun _ hs => ?_⟩
  ·show ((M.dev.fence t).flush.getD t' []).getD q.toNat false = true
   rw [fence_fl hne]; exact h'
  ·have := hkp k (by unfold in8 at hk; omega)
   show (M.dev.fence t).kept.getD k.toNat 0 = kp M k ∨ (M.dev.fence t).kept.getD k.toNat 0 = sn M k
   rw [this]; split
   ·exact .inr rfl
   ·exact .inl rfl
  ·have hs : sn M at_ = soilI word := (hsn at_.toNat).symm.trans hs
   show cleanI ((M.dev.fence t).kept.getD at_.toNat 0) = word
   rw [hkp at_ hr, if_pos (H.hpc.1 rfl), hs]
   have := H.hw; unfold cleanI soilI; omega
 ·subst h1
  have e : lastM n nt th at_ 3 word M = (M.accW n th at_ (soilI word) word).1 := by unfold lastM; rw [if_neg (by decide), if_neg (by decide)]
  rw [e]
  have hpk := sn_peek (M := M) hn H.ha
  by_cases hs : sn M at_ = soilI word
  ·rw [hs] at hpk
   have hd := accW_dev (th := th) (w := word) hpk hr.1
   refine ⟨⟨fun t' q _ h' => by unfold fl at h' ⊢; rw [hd]; exact h', fun k hk => ?_⟩, by rw [hd]; exact K.ok.store, fun h => absurd h (by decide), fun h => absurd h (by decide)⟩
   by_cases hk2 : k = at_
   ·subst hk2
    have e1 : sn (M.accW n th k (soilI word) word).1 k = word := by
     unfold sn; rw [hd]
     have : k.toNat < M.dev.seen.length := by rw [K.ok.2.1]; omega
     simp [DevM.store, this]
    refine .inr ⟨by unfold kp; rw [hd]; rfl, .inl ⟨by rw [e1]; have := H.hw; unfold isL; omega, by rw [e1]; exact H.hpc.2 rfl hs, by rw [e1]; exact H.hw.2⟩⟩
   ·refine .inl ⟨?_, .inl (by unfold kp; rw [hd]; rfl)⟩
    unfold sn; rw [hd]
    have : ¬ at_.toNat = k.toNat := by unfold in8 at hk; omega
    simp [DevM.store, List.getD_eq_getElem?_getD, List.getElem?_set, this]
  ·obtain ⟨_, hd, _⟩ := accW_ff (th := th) (w := word) hpk hs
   exact ⟨Mv.same hd, by rw [hd]; exact K.ok, fun h => absurd h (by decide), fun h => absurd h (by decide)⟩
/-- what a hand does next -/
def nextH (n i : Nat) (reads : Bool) (at_ : Int) (t : Nat) (M : MemM) (x : HandK) : HandK :=
 if x.done = true then (if reads = true then .rd ⟨(t : Int), at_, 0, 0, -1⟩ else .se ⟨(t : Int), at_, 0, cleanI (linkI (i : Int) (-1)), -1, cleanI ((M.peek n at_).getD 0), false, 0⟩) else x
def goH (n nt : Nat) (M : MemM) : HandK → HandK × MemM
 | .no => (.no, M)
 | .rd S => (.rd (rdStep n nt S M).1, (rdStep n nt S M).2)
 | .se S => (.se (seStep n nt S M).1, (seStep n nt S M).2)
theorem rd_go {S : RdS} (hn : 8 ≤ n) (hi : i ≤ 1000) (K : KMem n nt i M) (hS : S.good) (H : KOne i M t S.t S.at_ S.pc S.word) (ht : t < nt) :
  Mv i t M (rdStep n nt S M).2 ∧ (rdStep n nt S M).2.dev.ok n nt ∧ KH (i + 1) (rdStep n nt S M).2 t (.rd (rdStep n nt S M).1) := by
 have hg := (rdStep_good2 (n := n) (nt := nt) hS K.good).1
 have hw := H.hw
 by_cases h4 : S.pc = 4
 ·have e : rdStep n nt S M = (S, M) := by unfold rdStep; rw [if_pos h4]
  rw [e]
  exact ⟨Mv.same rfl, K.ok, hS, H.hth, H.ha, ⟨hw.1, by show S.word ≤ ((i + 1 : Nat) : Int); omega⟩, ⟨fun h => absurd h (by show ¬ S.pc = 2; omega), fun h => absurd h (by show ¬ S.pc = 3; omega)⟩⟩
 by_cases h0 : S.pc = 0
 ·have e : rdStep n nt S M = (⟨S.t, S.at_, if (M.accL n S.t S.at_).2.old < 9223372036854775808 then 4 else 1, cleanI (M.accL n S.t S.at_).2.old, (M.accL n S.t S.at_).1.clock⟩, (M.accL n S.t S.at_).1) := by unfold rdStep; rw [if_neg h4, if_pos h0]
  rw [e] at hg ⊢
  have ho : (M.accL n S.t S.at_).2.old = sn M S.at_ := accL_old (sn_peek hn H.ha)
  have hb := K.bound _ H.ha
  refine ⟨Mv.same rfl, K.ok, hg, H.hth, H.ha, ?_, ?_⟩
  ·show 0 ≤ cleanI (M.accL n S.t S.at_).2.old ∧ cleanI (M.accL n S.t S.at_).2.old ≤ ((i + 1 : Nat) : Int)
   rw [ho]; have := cleanI_l (sn M S.at_); unfold isL at this; omega
  ·refine ⟨fun h => ?_, fun h => ?_⟩ <;> (exfalso; revert h; show ¬ (if (M.accL n S.t S.at_).2.old < 9223372036854775808 then (4 : Int) else 1) = _; split <;> decide)
 have hp : 1 ≤ S.pc ∧ S.pc ≤ 3 := by have := hS.2.2.1; omega
 have e : rdStep n nt S M = (⟨S.t, S.at_, if S.pc = 3 then 0 else S.pc + 1, S.word, S.when_⟩, lastM n nt S.t S.at_ S.pc S.word M) := by unfold rdStep; rw [if_neg h4, if_neg h0]
 rw [e] at hg ⊢
 obtain ⟨a, b, c, d⟩ := last_step hn hi K H ht hp
 refine ⟨a, b, hg, H.hth, H.ha, ⟨hw.1, by show S.word ≤ ((i + 1 : Nat) : Int); omega⟩, ⟨fun h => ?_, fun h => ?_⟩⟩
 ·exact c (by have h : (if S.pc = 3 then (0 : Int) else S.pc + 1) = 2 := h; split at h <;> omega)
 ·exact d (by have h : (if S.pc = 3 then (0 : Int) else S.pc + 1) = 3 := h; split at h <;> omega)
theorem se_go {S : SeS} (hn : 8 ≤ n) (hi : i ≤ 1000) (K : KMem n nt i M) (hS : S.good) (hp0 : S.pc ≠ 0) (H : KOne i M t S.t S.at_ S.pc S.word) (ht : t < nt) :
  Mv i t M (seStep n nt S M).2 ∧ (seStep n nt S M).2.dev.ok n nt ∧ KH (i + 1) (seStep n nt S M).2 t (.se (seStep n nt S M).1) := by
 have hg := (seStep_good (n := n) (nt := nt) hS K.good).1
 have hw := H.hw
 by_cases h4 : S.pc = 4
 ·have e : seStep n nt S M = (S, M) := by unfold seStep; rw [if_pos h4]
  rw [e]
  exact ⟨Mv.same rfl, K.ok, hS, hp0, H.hth, H.ha, ⟨hw.1, by show S.word ≤ ((i + 1 : Nat) : Int); omega⟩, ⟨fun h => absurd h (by show ¬ S.pc = 2; omega), fun h => absurd h (by show ¬ S.pc = 3; omega)⟩⟩
 have hp : 1 ≤ S.pc ∧ S.pc ≤ 3 := by have := hS.2.2.1; omega
 have e : seStep n nt S M = (⟨S.t, S.at_, S.pc + 1, S.word, S.when_, S.old, S.put, S.writes⟩, lastM n nt S.t S.at_ S.pc S.word M) := by unfold seStep; rw [if_neg h4, if_neg hp0]
 rw [e] at hg ⊢
 obtain ⟨a, b, c, d⟩ := last_step hn hi K H ht hp
 refine ⟨a, b, hg, by show ¬ S.pc + 1 = 0; omega, H.hth, H.ha, ⟨hw.1, by show S.word ≤ ((i + 1 : Nat) : Int); omega⟩, ⟨fun h => ?_, fun h => ?_⟩⟩
 ·exact c (by have h : S.pc + 1 = 2 := h; omega)
 ·exact d (by have h : S.pc + 1 = 3 := h; omega)
theorem se_new (hn : 8 ≤ n) (hi : i ≤ 1000) (K : KMem n nt i M) (ha : in8 at_) (ht : t < nt) (hn2 : nt ≤ 64) {o : Int} :
  Mv i t M (seStep n nt ⟨(t : Int), at_, 0, cleanI (linkI (i : Int) (-1)), -1, cleanI o, false, 0⟩ M).2 ∧ (seStep n nt ⟨(t : Int), at_, 0, cleanI (linkI (i : Int) (-1)), -1, cleanI o, false, 0⟩ M).2.dev.ok n nt ∧
   KH (i + 1) (seStep n nt ⟨(t : Int), at_, 0, cleanI (linkI (i : Int) (-1)), -1, cleanI o, false, 0⟩ M).2 t (.se (seStep n nt ⟨(t : Int), at_, 0, cleanI (linkI (i : Int) (-1)), -1, cleanI o, false, 0⟩ M).1) := by
 have ha2 := ha
 unfold in8 at ha2
 have hS : SeS.good ⟨(t : Int), at_, 0, cleanI (linkI (i : Int) (-1)), -1, cleanI o, false, 0⟩ := seInit (by omega) (by omega)
 have hg := (seStep_good (n := n) (nt := nt) hS K.good).1
 have hl : cleanI (linkI (i : Int) (-1)) = (i : Int) + 1 := by unfold cleanI linkI; omega
 have hpk := sn_peek (M := M) hn ha
 generalize hSe : (⟨(t : Int), at_, 0, cleanI (linkI (i : Int) (-1)), -1, cleanI o, false, 0⟩ : SeS) = S at hg ⊢
 have f1 : S.t = (t : Int) := by rw [← hSe]
 have f2 : S.at_ = at_ := by rw [← hSe]
 have f3 : S.pc = 0 := by rw [← hSe]
 have f4 : S.word = (i : Int) + 1 := by rw [← hSe]; exact hl
 have ea : seA n S M = M.accW n S.t at_ S.old (soilI ((i : Int) + 1)) := by unfold seA; rw [f2, f4]
 by_cases hs : sn M at_ = S.old
 ·rw [hs] at hpk
  obtain ⟨a, _, _, _, b⟩ := accW_t (th := S.t) (w := soilI ((i : Int) + 1)) hpk K.ok
  have hd := accW_dev (th := S.t) (w := soilI ((i : Int) + 1)) hpk (by omega)
  have e : seStep n nt S M = (⟨S.t, S.at_, 1, S.word, (seA n S M).1.clock, S.old, true, wrM (seA n S M).1 S.at_⟩, (seA n S M).1) := by
   unfold seStep; rw [if_neg (by omega), if_pos f3, if_pos (by rw [ea]; exact a)]
  rw [e] at hg ⊢
  rw [ea] at hg ⊢
  refine ⟨⟨fun t' q _ h' => by unfold fl at h' ⊢; rw [hd]; exact h', fun k hk => ?_⟩, b, hg, by show ¬ (1 : Int) = 0; decide, f1, by show in8 S.at_; rw [f2]; exact ha, by show 0 ≤ S.word ∧ S.word ≤ ((i + 1 : Nat) : Int); omega, ⟨fun h => absurd h (by show ¬ (1 : Int) = 2; decide), fun h => absurd h (by show ¬ (1 : Int) = 3; decide)⟩⟩
  by_cases hk2 : k = at_
  ·subst hk2
   refine .inr ⟨by unfold kp; rw [hd]; rfl, .inr ?_⟩
   unfold sn; rw [hd]
   have : k.toNat < M.dev.seen.length := by rw [K.ok.2.1]; omega
   simp [DevM.store, this]
  ·refine .inl ⟨?_, .inl (by unfold kp; rw [hd]; rfl)⟩
   unfold sn; rw [hd]
   have : ¬ at_.toNat = k.toNat := by unfold in8 at hk; omega
   simp [DevM.store, List.getD_eq_getElem?_getD, List.getElem?_set, this]
 ·obtain ⟨a, hd, _⟩ := accW_ff (th := S.t) (w := soilI ((i : Int) + 1)) hpk hs
  have e : seStep n nt S M = (⟨S.t, S.at_, 4, S.word, S.when_, S.old, S.put, S.writes⟩, (seA n S M).1) := by
   unfold seStep; rw [if_neg (by omega), if_pos f3, if_neg (by rw [ea, a]; decide)]
  rw [e] at hg ⊢
  rw [ea] at hg ⊢
  exact ⟨Mv.same hd, by rw [hd]; exact K.ok, hg, by show ¬ (4 : Int) = 0; decide, f1, by show in8 S.at_; rw [f2]; exact ha, by show 0 ≤ S.word ∧ S.word ≤ ((i + 1 : Nat) : Int); omega, ⟨fun h => absurd h (by show ¬ (4 : Int) = 2; decide), fun h => absurd h (by show ¬ (4 : Int) = 3; decide)⟩⟩
theorem hand_go (hn : 8 ≤ n) (hi : i ≤ 1000) (K : KMem n nt i M) (ha : in8 at_) (ht : t < nt) (hn2 : nt ≤ 64) {reads : Bool} {x : HandK} (H : KH i M t x) :
  Mv i t M (goH n nt M (nextH n i reads at_ t M x)).2 ∧ (goH n nt M (nextH n i reads at_ t M x)).2.dev.ok n nt ∧ KH (i + 1) (goH n nt M (nextH n i reads at_ t M x)).2 t (goH n nt M (nextH n i reads at_ t M x)).1 := by
 have ha2 := ha
 unfold in8 at ha2
 unfold nextH
 split
 ·split
  ·exact rd_go (S := ⟨(t : Int), at_, 0, 0, -1⟩) hn hi K (rdInit (by omega) (by omega)) ⟨rfl, ha, by show (0 : Int) ≤ 0 ∧ (0 : Int) ≤ i; omega, ⟨fun h => absurd h (by show ¬ (0 : Int) = 2; decide), fun h => absurd h (by show ¬ (0 : Int) = 3; decide)⟩⟩ ht
  ·exact se_new hn hi K ha ht hn2
 ·rename_i hd
  cases x with
  | no => exact absurd rfl hd
  | rd S => exact rd_go hn hi K H.1 H.2 ht
  | se S => exact se_go hn hi K H.1 H.2.1 H.2.2 ht
end
end Go.Proofs.Ytkmndplicmaahaa
