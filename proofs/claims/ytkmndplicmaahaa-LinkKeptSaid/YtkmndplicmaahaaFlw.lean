/- Links: sets of one word (plain laws). -/
import Derived.Test.YtkmndplicmaahaaFll
import Derived.Test.YtkmndplicmaahaaFbi2
import Derived.Test.YtkmndplicmaahaaKk
namespace Go.Proofs.Ytkmndplicmaahaa
open Go.RowKit
set_option linter.unusedVariables false
attribute [local irreducible] K.KW K.RW K.DW K.OW K.QR K.KC
def set0 (i : Nat) : SeS := ⟨(i : Int), 20, 0, cleanI (linkI (i : Int) (-1)), -1, cleanI 0, false, 0⟩
def sets0 (m : Nat) : List SeS := (List.range m).map set0
theorem sets0_len (m : Nat) : (sets0 m).length = m := by simp [sets0]
theorem sets0_at {m t : Nat} {S : SeS} (h : (sets0 m)[t]? = some S) : t < m ∧ S = set0 t := by
 have ht := (List.getElem?_eq_some_iff.1 h).1
 rw [sets0_len] at ht
 refine ⟨ht, ?_⟩
 simp [sets0, ht] at h
 exact h.symm
theorem link_own {t : Int} (h : 0 ≤ t ∧ t < 6) : cleanI (linkI t (-1)) = t + 1 ∧ linkI t (-1) = t + 1 := by unfold cleanI linkI; omega
section
variable {n nt : Nat} {M M' : MemM} {th i o v w y : Int} {k : Nat} {S : SeS}
theorem accW_ff (h : M.peek n i = some y) (hn : ¬ y = o) : (M.accW n th i o w).2.done = false ∧ (M.accW n th i o w).1.dev = M.dev ∧ ∀ j, (M.accW n th i o w).1.peek n j = M.peek n j := by
 have e : M.accW n th i o w = (M.count ⟨3, th, i, y, w, false⟩ true, ⟨3, th, i, y, w, false⟩) := by
  have hb : (y == o) = false := by simpa using hn
  simp [MemM.accW, h, hb]
 rw [e]
 exact ⟨rfl, rfl, fun _ => rfl⟩
theorem SA_mem (h : SA n nt th i o v k S M) (hd : M'.dev = M.dev) (hp : M'.peek n i = M.peek n i) : SA n nt th i o v k S M' := by
 obtain ⟨h1, h2, h3, h4, h⟩ := h
 refine ⟨h1, h2, h3, h4, ?_⟩
 unfold LP at h ⊢
 rw [hd, hp]; exact h
theorem SA_peek (hk : 1 ≤ k) (hv : 0 < v) (h : SA n nt th i o v k S M) : ∃ y, M.peek n i = some y ∧ ¬ y = 0 := by
 obtain ⟨_, _, _, _, h⟩ := h
 rcases h with ⟨h, _⟩ | ⟨_, _, _, _, h⟩ | ⟨_, _, _, _, h, _⟩
 ·omega
 ·exact ⟨_, h.2.1, by unfold soilI; omega⟩
 ·exact ⟨_, h, by omega⟩
theorem seStep_pc (h : S.good) : S.pc ≤ (seStep n nt S M).1.pc ∧ (S.pc < 4 → S.pc + 1 ≤ (seStep n nt S M).1.pc) := by
 have := h.2.2.1
 unfold seStep
 split
 ·exact ⟨Int.le_refl _, fun h => by omega⟩
 split
 ·split
  ·exact ⟨by show S.pc ≤ 1; omega, fun _ => by show S.pc + 1 ≤ 1; omega⟩
  ·exact ⟨by show S.pc ≤ 4; omega, fun _ => by show S.pc + 1 ≤ 4; omega⟩
 ·exact ⟨by show S.pc ≤ S.pc + 1; omega, fun _ => by show S.pc + 1 ≤ S.pc + 1; omega⟩
end
/-- of the set of thread t -/
structure WOne (n nt : Nat) (won : Int) (M : MemM) (t : Nat) (S : SeS) : Prop where
 good : S.good
 th : S.t = (t : Int)
 at_ : S.at_ = 20
 word : S.word = (t : Int) + 1
 old : S.old = 0
 put : S.put = true ↔ won = (t : Int)
 idle : won ≠ (t : Int) → S.pc = 0 ∨ S.pc = 4
 none_ : won = -1 → S.pc = 0
 it : won = (t : Int) → ∃ kk, 1 ≤ kk ∧ kk ≤ 4 ∧ SA n nt (t : Int) 20 0 ((t : Int) + 1) kk S M
structure WInv (n nt m : Nat) (won : Int) (k : Nat) (hs : List SeS) (M : MemM) : Prop where
 len : hs.length = m
 ok : M.dev.ok n nt
 good : M.good
 wb : won = -1 ∨ (0 ≤ won ∧ won < m)
 mem : won = -1 → M.peek n 20 = some 0
 each : ∀ t S, hs[t]? = some S → WOne n nt won M t S
 prog : ∀ t S r, hs[t]? = some S → r ≤ 4 → 5 * t + r ≤ k → (r : Int) ≤ S.pc
section
variable {n nt m k k' t : Nat} {won : Int} {hs : List SeS} {M : MemM} {S : SeS}
theorem WInv.prog' (I : WInv n nt m won k hs M) (hS : hs[t]? = some S) (hk : k' = k ∨ (k' = k + 1 ∧ t = k / 5)) : ∀ t' X r, (hs.set t (seStep n nt S M).1)[t']? = some X → r ≤ 4 → 5 * t' + r ≤ k' → (r : Int) ≤ X.pc := by
 intro t' X r hX hr h5
 have hg := (I.each t S hS).good
 obtain ⟨p1, p2⟩ := seStep_pc (n := n) (nt := nt) (M := M) hg
 rw [List.getElem?_set] at hX
 by_cases ht : t = t'
 ·subst ht
  rw [if_pos rfl, if_pos (List.getElem?_eq_some_iff.1 hS).1] at hX
  cases hX
  by_cases h6 : 5 * t + r ≤ k
  ·have := I.prog t S r hS hr h6; omega
  ·have hr1 : 1 ≤ r := by omega
   have := I.prog t S (r - 1) hS (by omega) (by omega)
   by_cases h4 : S.pc < 4
   ·have := p2 h4; omega
   ·omega
 ·rw [if_neg ht] at hX
  by_cases h6 : 5 * t' + r ≤ k
  ·exact I.prog t' X r hX hr h6
  ·have hg := (I.each t' X hX).good.2.2.1
   have : r = 0 := by omega
   subst this; simpa using hg.1
theorem WInv.step (I : WInv n nt m won k hs M) (hn : 3 ≤ n) (hm : m ≤ nt) (hS : hs[t]? = some S) (hk : k' = k ∨ (k' = k + 1 ∧ t = k / 5)) :
  WInv n nt m (if (seStep n nt S M).1.put = true ∧ won = -1 then (t : Int) else won) k' (hs.set t (seStep n nt S M).1) (seStep n nt S M).2 := by
 have ht : t < hs.length := (List.getElem?_eq_some_iff.1 hS).1
 have O := I.each t S hS
 obtain ⟨g1, g2⟩ := seStep_good (n := n) (nt := nt) O.good I.good
 have hpr := I.prog' (k' := k') hS hk
 have hl := I.len
 have hi : (0 : Int) ≤ 20 ∧ (20 : Int) < (n : Int) * 8 := by omega
 have hth : (0 : Int) ≤ (t : Int) ∧ (t : Int) < (nt : Int) := by omega
 -- the others, when the memory is as it was for the winner
 by_cases hp4 : S.pc = 4
 ·have e : seStep n nt S M = (S, M) := by unfold seStep; rw [if_pos hp4]
  rw [e] at hpr ⊢
  have hw : ¬ won = -1 := fun h => by have := O.none_ h; omega
  rw [if_neg (fun h => hw h.2)]
  rw [K.hs_self hS] at hpr ⊢
  exact ⟨I.len, I.ok, I.good, I.wb, I.mem, I.each, hpr⟩
 by_cases hw : won = -1
 ·
  have hp := O.none_ hw
  have hA : SA n nt (t : Int) 20 0 ((t : Int) + 1) 0 S M := ⟨O.th, O.at_, O.word, O.old, .inl ⟨rfl, hp, I.ok, I.mem hw⟩⟩
  have hA1 := SA_step hi hth (by omega) hA
  have hput : (seStep n nt S M).1.put = true := by
   obtain ⟨_, _, _, _, h⟩ := hA1
   rcases h with ⟨h, _⟩ | ⟨_, _, _, h, _⟩ | ⟨_, _, h, _⟩
   ·omega
   ·exact h
   ·exact h
  have hok : (seStep n nt S M).2.dev.ok n nt := by
   obtain ⟨_, _, _, _, h⟩ := hA1
   rcases h with ⟨h, _⟩ | ⟨_, _, _, _, h⟩ | ⟨h, _⟩
   ·omega
   ·exact h.1
   ·omega
  rw [if_pos ⟨hput, hw⟩]
  refine ⟨by rw [List.length_set]; exact hl, hok, g2, .inr (by omega), fun h => by omega, ?_, hpr⟩
  intro t' X hX
  rw [List.getElem?_set] at hX
  by_cases htt : t = t'
  ·subst htt
   rw [if_pos rfl, if_pos ht] at hX
   cases hX
   exact ⟨g1, hA1.1, hA1.2.1, hA1.2.2.1, hA1.2.2.2.1, ⟨fun _ => rfl, fun _ => hput⟩, fun h => absurd rfl h, fun h => by omega, fun _ => ⟨1, by omega, by omega, hA1⟩⟩
  ·rw [if_neg htt] at hX
   have O' := I.each t' X hX
   have hnp : ¬ X.put = true := fun h => by have := O'.put.1 h; omega
   exact ⟨O'.good, O'.th, O'.at_, O'.word, O'.old, ⟨fun h => absurd h hnp, fun h => by omega⟩, fun _ => .inl (O'.none_ hw), fun h => by omega, fun h => by omega⟩
 rw [if_neg (fun h => hw h.2)]
 by_cases hwt : won = (t : Int)
 ·
  obtain ⟨kk, h1, h2, hA⟩ := O.it hwt
  have hk4 : kk < 4 := by
   have := hA.2.2.2.2
   omega
  have hA1 := SA_step hi hth hk4 hA
  have hput : (seStep n nt S M).1.put = true ∧ (seStep n nt S M).2.dev.ok n nt := by
   obtain ⟨_, _, _, _, h⟩ := hA1
   rcases h with ⟨h, _⟩ | ⟨_, _, _, h, h'⟩ | ⟨_, _, h, h', _⟩
   ·omega
   ·exact ⟨h, h'.1⟩
   ·exact ⟨h, h'⟩
  refine ⟨by rw [List.length_set]; exact hl, hput.2, g2, I.wb, fun h => by omega, ?_, hpr⟩
  intro t' X hX
  rw [List.getElem?_set] at hX
  by_cases htt : t = t'
  ·subst htt
   rw [if_pos rfl, if_pos ht] at hX
   cases hX
   exact ⟨g1, hA1.1, hA1.2.1, hA1.2.2.1, hA1.2.2.2.1, ⟨fun _ => hwt, fun _ => hput.1⟩, fun h => absurd hwt h, fun h => by omega, fun _ => ⟨kk + 1, by omega, by omega, hA1⟩⟩
  ·rw [if_neg htt] at hX
   have O' := I.each t' X hX
   exact ⟨O'.good, O'.th, O'.at_, O'.word, O'.old, O'.put, O'.idle, O'.none_, fun h => by omega⟩
 ·
  have hp : S.pc = 0 := (O.idle hwt).resolve_right hp4
  have hwb : 0 ≤ won ∧ won < m := by have := I.wb; omega
  obtain ⟨W, hW⟩ := K.ex_at (hs := hs) (t := won.toNat) (by omega)
  have OW := I.each won.toNat W hW
  obtain ⟨kk, h1, h2, hA⟩ := OW.it (by omega)
  obtain ⟨y, hy, hy0⟩ := SA_peek h1 (by omega) hA
  obtain ⟨f1, f2, f3⟩ := accW_ff (th := S.t) (w := soilI S.word) hy hy0
  have ea : seA n S M = M.accW n S.t 20 0 (soilI S.word) := by unfold seA; rw [O.at_, O.old]
  have e : seStep n nt S M = (⟨S.t, S.at_, 4, S.word, S.when_, S.old, S.put, S.writes⟩, (seA n S M).1) := by
   unfold seStep; rw [if_neg hp4, if_pos hp, if_neg (by rw [ea, f1]; decide)]
  rw [e, ea] at hpr g2 ⊢
  rw [e] at g1
  refine ⟨by rw [List.length_set]; exact hl, by rw [f2]; exact I.ok, g2, I.wb, fun h => by omega, ?_, hpr⟩
  intro t' X hX
  rw [List.getElem?_set] at hX
  by_cases htt : t = t'
  ·subst htt
   rw [if_pos rfl, if_pos ht] at hX
   cases hX
   exact ⟨g1, O.th, O.at_, O.word, O.old, O.put, fun _ => .inr rfl, fun h => by omega, fun h => absurd h hwt⟩
  ·rw [if_neg htt] at hX
   have O' := I.each t' X hX
   refine ⟨O'.good, O'.th, O'.at_, O'.word, O'.old, O'.put, O'.idle, O'.none_, fun h => ?_⟩
   obtain ⟨kk', a, b, hB⟩ := O'.it h
   exact ⟨kk', a, b, SA_mem hB f2 (f3 20)⟩
theorem WInv.start (hn : 3 ≤ n) (hm : m ≤ 6) (hok : M.dev.ok n nt) (hM : M.good) (hp : M.peek n 20 = some 0) : WInv n nt m (-1) 0 (sets0 m) M := by
 refine ⟨sets0_len m, hok, hM, .inl rfl, fun _ => hp, ?_, ?_⟩
 ·intro t S hS
  obtain ⟨ht, rfl⟩ := sets0_at hS
  have hl := link_own (t := (t : Int)) (by omega)
  exact ⟨seInit (by omega) (by omega), rfl, rfl, hl.1, rfl, ⟨fun h => (by cases h), fun h => by omega⟩, fun _ => .inl rfl, fun _ => rfl, fun h => by omega⟩
 ·intro t S r hS hr h5
  have : r = 0 := by omega
  subst this
  obtain ⟨ht, rfl⟩ := sets0_at hS
  exact Int.le_refl _
theorem WInv.done (I : WInv n nt m won (5 * m) hs M) (hS : hs[t]? = some S) : S.done = true := decide_eq_true (by
 have ht : t < hs.length := (List.getElem?_eq_some_iff.1 hS).1
 have := I.prog t S 4 hS (by omega) (by have := I.len; omega)
 have := (I.each t S hS).good.2.2.1
 omega)
end
end Go.Proofs.Ytkmndplicmaahaa
