/- Layer 11: a log and one thread: plain laws. -/
import Derived.Test.YtkmndplicmaahaaFl11
import Derived.Test.YtkmndplicmaahaaLl4
namespace Go.Proofs.Ytkmndplicmaahaa
open Go.RowKit
set_option linter.unusedVariables false
attribute [local irreducible] K.KW K.RW K.DW K.OW K.QR K.KC
section
variable {n nt : Nat} {M : MemM} {th i j w : Int}
theorem i64s_in {x : Int} (h : -9223372036854775808 ≤ x ∧ x < 9223372036854775807) : i64s x = x + 1 := by unfold i64s; exact IntWalk.i64_in _ (by omega)
theorem accS_pk (hs : M.dev.seen.length = n * 8) (hi : 0 ≤ i ∧ i < n * 8) : (M.accS n th i w).1.peek n j = if j = i then some w else M.peek n j := by
 show (if (M.peek n i).isSome = true then M.put i w else M).peek n j = _
 rw [if_pos (show (M.peek n i).isSome = true by rw [peek_dev hi]; rfl), putD hi.1]
 unfold MemM.peek
 show (if 0 ≤ j then (if j < n * 8 then some ((M.dev.seen.set i.toNat w).getD j.toNat 0) else none) else _) = _
 by_cases hj : j = i
 ·subst hj; rw [if_pos hi.1, if_pos hi.2, if_pos rfl, getD_set_self (by omega)]
 ·rw [if_neg hj]
  by_cases h0 : 0 ≤ j
  ·rw [if_pos h0, if_pos h0]
   by_cases h1 : j < n * 8
   ·rw [if_pos h1, if_pos h1]
    congr 1
    have hne : ¬ i.toNat = j.toNat := by omega
    simp [List.getD_eq_getElem?_getD, List.getElem?_set, hne]
   ·rw [if_neg h1, if_neg h1]
  ·rw [if_neg h0, if_neg h0]
theorem accS_ok (h : M.dev.ok n nt) : (M.accS n th i w).1.dev.ok n nt := by
 show (if (M.peek n i).isSome = true then M.put i w else M).dev.ok n nt
 split
 ·by_cases h0 : 0 ≤ i
  ·rw [putD h0]; exact h.store
  ·rw [putP h0]; exact h
 ·exact h
theorem accS_clock {M : MemM} {n : Nat} {th i w : Int} : (M.accS n th i w).1.clock = i64s M.clock := by
 show i64s (if (M.peek n i).isSome then M.put i w else M).clock = _
 split
 ·unfold MemM.put; split <;> rfl
 ·rfl
theorem accF_pk : (M.accF n nt th i).1.peek n j = M.peek n j := by
 show (if decide _ = true then _ else M).peek n j = _
 split <;> rfl
theorem accE_pk : (M.accE nt th).1.peek n j = M.peek n j := by
 show (if decide _ = true then _ else M).peek n j = _
 split
 ·unfold MemM.peek
  show (if 0 ≤ j then (if j < n * 8 then some ((M.dev.fence th.toNat).seen.getD j.toNat 0) else none) else _) = _
  rw [DevM.fence_seen]
 ·rfl
theorem ground_snoc (n t k : Nat) (ps : List PutM) (p : PutM) : groundM n t k (ps ++ [p]) = ((groundM n t k ps).accS n 0 p.at_ p.w).1 := by unfold groundM putsT; rw [List.foldl_append]; rfl
end
/-- the places of a log are words of the device, each its own -/
theorem log_at {c : Cfg} (hc : cfgOk c) {t k : Int} (ht : 0 ≤ t ∧ t < c.th) (hk : 0 ≤ k ∧ k < c.lo) : logS c t k = (lFirst c + lsz c * t) * 8 + k ∧ 0 ≤ logS c t k ∧ logS c t k < (((lns c).toNat : Nat) : Int) * 8 := by
 have hb := lay_bd hc
 have h1 : logS c t k = (lFirst c + lsz c * t) * 8 + k := by unfold logS wordS; rw [if_pos hk, if_pos ht]
 have h2 : 0 ≤ lsz c * t := Int.mul_nonneg (by omega) (by omega)
 have h3 : lsz c * (t + 1) ≤ lsz c * c.th := Int.mul_le_mul_of_nonneg_left (by omega) (by omega)
 have h4 : lsz c * c.th = tl c := by unfold tl; exact Int.mul_comm _ _
 have h5 : lsz c * (t + 1) = lsz c * t + lsz c := by rw [Int.mul_add, Int.mul_one]
 have h6 : lsz c = (c.lo + 7) / 8 := rfl
 unfold cfgOk at hc
 refine ⟨h1, by omega, by omega⟩
def putsF (c : Cfg) (t : Int) (ws : List Int) (j : Nat) : List PutM := (List.range j).map fun (k : Nat) => ⟨logS c t (k : Int), K.orK .u64 (ws.getD k 0) 1⟩
theorem putsF_succ (c : Cfg) (t : Int) (ws : List Int) (j : Nat) : putsF c t ws (j + 1) = putsF c t ws j ++ [⟨logS c t (j : Int), K.orK .u64 (ws.getD j 0) 1⟩] := by unfold putsF; rw [List.range_succ, List.map_append]; rfl
theorem putsF_len (c : Cfg) (t : Int) (ws : List Int) (j : Nat) : (putsF c t ws j).length = j := by simp [putsF]
theorem putsF_get {c : Cfg} {t : Int} {ws : List Int} {j k : Nat} (h : k < j) : (putsF c t ws j).getD k pu0 = ⟨logS c t (k : Int), K.orK .u64 (ws.getD k 0) 1⟩ := by
 unfold putsF
 simp [h]
theorem orK_w (x : Int) : isW (K.orK .u64 x 1) := by
 have hb : (BitVec.ofInt 64 x ||| BitVec.ofInt 64 1).toNat < 18446744073709551616 := BitVec.isLt _
 show isW (IntKind.u64.wrap (((BitVec.ofInt 64 x ||| BitVec.ofInt 64 1).toNat : Nat) : Int))
 rw [wrap64 (by unfold isW; omega)]
 unfold isW; omega
theorem orK_ne (x : Int) : ¬ K.orK .u64 x 1 = 0 := fun h => by
 have hb : (BitVec.ofInt 64 x ||| BitVec.ofInt 64 1).toNat < 18446744073709551616 := BitVec.isLt _
 have h1 : IntKind.u64.wrap (((BitVec.ofInt 64 x ||| BitVec.ofInt 64 1).toNat : Nat) : Int) = 0 := h
 rw [wrap64 (by unfold isW; omega)] at h1
 have h3 : (BitVec.ofInt 64 x ||| BitVec.ofInt 64 1).getLsbD 0 = true := by simp [BitVec.getLsbD_or]
 rw [← BitVec.testBit_toNat, show (BitVec.ofInt 64 x ||| BitVec.ofInt 64 1).toNat = 0 by omega] at h3
 simp at h3
theorem putsF_good {c : Cfg} (hc : cfgOk c) {t : Int} {ws : List Int} {m : Nat} : ∀ j, j < (putsF c t ws m).length → isInt ((putsF c t ws m).getD j pu0).at_ ∧ isW ((putsF c t ws m).getD j pu0).w := fun j hj => by
 rw [putsF_len] at hj
 rw [putsF_get hj]
 exact ⟨log_int hc _ _, orK_w _⟩
theorem fresh_ok {c : Cfg} (hc : cfgOk c) {k : Nat} : (MemM.of (DevM.fresh (List.replicate ((lns c).toNat * 8) 0) (lns c).toNat c.th.toNat) k).dev.ok (lns c).toNat c.th.toNat := by
 have hb := lay_bd hc
 unfold cfgOk at hc
 exact DevM.ok.fresh (by simp) (by omega) (by omega) (by omega) (by omega)
theorem full_ground {c : Cfg} (hc : cfgOk c) (hlo : c.lo ≤ 8) {t : Int} (ht : 0 ≤ t ∧ t < c.th) {k : Nat} {ws : List Int} : ∀ (j : Nat), (j : Int) ≤ c.lo → (groundM (lns c).toNat c.th.toNat k (putsF c t ws j)).dev.ok (lns c).toNat c.th.toNat ∧ (∀ i : Nat, i < j → (groundM (lns c).toNat c.th.toNat k (putsF c t ws j)).peek (lns c).toNat (logS c t (i : Int)) = some (K.orK .u64 (ws.getD i 0) 1)) ∧ (groundM (lns c).toNat c.th.toNat k (putsF c t ws j)).clock = j
 | 0, _ => ⟨fresh_ok hc, fun i h => absurd h (by omega), rfl⟩
 | j + 1, hj => by
  obtain ⟨h1, h2, h3⟩ := full_ground hc hlo ht (k := k) (ws := ws) j (by omega)
  rw [putsF_succ, ground_snoc]
  have hin := log_at hc ht (k := (j : Int)) (by omega)
  refine ⟨accS_ok h1, fun i hi => ?_, by rw [accS_clock, h3, i64s_in (by omega)]; omega⟩
  rw [accS_pk h1.2.1 hin.2]
  by_cases hij : i = j
  ·subst hij; rw [if_pos rfl]
  ·have hin2 := log_at hc ht (k := (i : Int)) (by omega)
   rw [if_neg (by rw [hin.1, hin2.1]; omega)]; exact h2 i (by omega)
/-- a Reserve in a full log, behind i steps -/
structure FInv (c : Cfg) (n : Nat) (tt : Int) (W : Nat → Int) (i : Nat) (S : ResS) (M : MemM) : Prop where
 good : S.good
 mg : M.good
 t : S.t = tt
 full : ∀ k : Nat, (k : Int) < c.lo → M.peek n (logS c tt (k : Int)) = some (W k) ∧ ¬ W k = 0
 last : 1 ≤ i → M.last.kind = 1
 st : ((i : Int) < c.lo ∧ S.pc = 0 ∧ S.next = i ∧ M.clock = c.lo + i) ∨ (c.lo ≤ i ∧ S.pc = 5 ∧ S.place = c.lo ∧ M.clock = c.lo + c.lo)
theorem FInv.next {c : Cfg} {n nt : Nat} {tt : Int} {W : Nat → Int} {i : Nat} {S : ResS} {M : MemM} (hc : cfgOk c) (hlo : c.lo ≤ 8) (I : FInv c n tt W i S M) : FInv c n tt W (i + 1) (resStep c n nt S M).1 (resStep c n nt S M).2 := by
 obtain ⟨hg, hm, ht, hf, hl, hst⟩ := I
 obtain ⟨hg', hm'⟩ := resStep_good hc (n := n) (nt := nt) hg hm
 have hc1 : 1 ≤ c.lo := by unfold cfgOk at hc; omega
 rcases hst with ⟨hi, hp, hx, hcl⟩ | ⟨hi, hp, hpl, hcl⟩
 ·obtain ⟨hfi, hne⟩ := hf i hi
  have hold : (reLd c n S M).2.old = W i := by
   show (M.peek n (logS c S.t S.next)).getD 0 = _
   rw [ht, hx, hfi]; rfl
  have e : resStep c n nt S M = relook c n S M := by unfold resStep; rw [if_neg (by omega), if_pos hp]
  by_cases hlast : S.next + 1 = c.lo
  ·have e2 : relook c n S M = (⟨S.t, 5, S.slot, S.next + 1, S.next + 1⟩, (reLd c n S M).1) := by unfold relook; rw [if_pos (by omega), if_neg (by rw [hold]; exact hne), if_pos hlast]
   rw [e, e2] at hg' hm' ⊢
   exact ⟨hg', hm', ht, hf, fun _ => rfl, .inr ⟨by omega, rfl, hlast, by show i64s M.clock = _; rw [hcl, i64s_in (by omega)]; omega⟩⟩
  ·have e2 : relook c n S M = (⟨S.t, S.pc, S.slot, S.next + 1, S.next⟩, (reLd c n S M).1) := by unfold relook; rw [if_pos (by omega), if_neg (by rw [hold]; exact hne), if_neg hlast]
   rw [e, e2] at hg' hm' ⊢
   exact ⟨hg', hm', ht, hf, fun _ => rfl, .inl ⟨by omega, hp, by show S.next + 1 = _; omega, by show i64s M.clock = _; rw [hcl, i64s_in (by omega)]; omega⟩⟩
 ·have e : resStep c n nt S M = (S, M) := by unfold resStep; rw [if_pos hp]
  rw [e]
  exact ⟨hg, hm, ht, hf, fun _ => hl (by omega), .inr ⟨by omega, hp, hpl, hcl⟩⟩
theorem FInv.start {c : Cfg} (hc : cfgOk c) (hlo : c.lo ≤ 8) {t : Int} (ht : 0 ≤ t ∧ t < c.th) {k m : Nat} {ws : List Int} (hm : (m : Int) = c.lo) : FInv c (lns c).toNat t (fun i => K.orK .u64 (ws.getD i 0) 1) 0 ⟨t, 0, 0, 0, 0⟩ (groundM (lns c).toNat c.th.toNat k (putsF c t ws m)) := by
 obtain ⟨_, h2, h3⟩ := full_ground hc hlo ht (k := k) (ws := ws) m (by omega)
 have hcc := hc
 unfold cfgOk at hcc
 exact ⟨resInit (by omega) (by omega), ground_good (fun j hj => (putsF_good hc j hj).2), rfl, fun q hq => ⟨h2 q (by omega), orK_ne _⟩, fun h => absurd h (by decide), .inl ⟨by show (((0 : Nat) : Int)) < c.lo; omega, rfl, rfl, by rw [h3, hm]; simp⟩⟩
theorem FInv.c0 {c : Cfg} (hc : cfgOk c) {n : Nat} {tt : Int} {W : Nat → Int} {S : ResS} {M : MemM} (I : FInv c n tt W 0 S M) : M.clock = c.lo := by
 unfold cfgOk at hc
 rcases I.st with ⟨_, _, _, h⟩ | ⟨h, _⟩
 ·simpa using h
 ·omega
theorem FInv.done {c : Cfg} {n i : Nat} {tt : Int} {W : Nat → Int} {S : ResS} {M : MemM} (hlo : c.lo ≤ 8) (I : FInv c n tt W i S M) (hi : i = 20) : S.done = true ∧ rePlace c S = -1 ∧ M.clock = c.lo + c.lo := by
 rcases I.st with h | ⟨_, h1, h2, h3⟩
 ·omega
 ·exact ⟨decide_eq_true h1, by unfold rePlace; rw [if_neg (by omega)], h3⟩
end Go.Proofs.Ytkmndplicmaahaa
