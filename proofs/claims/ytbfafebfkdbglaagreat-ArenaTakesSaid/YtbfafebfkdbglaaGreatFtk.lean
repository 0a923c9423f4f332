import Derived.Test.YtbfafebfkdbglaaGreatFl4
import Derived.Test.YtbfafebfkdbglaaGreatFl9c
import Derived.Test.YtbfafebfkdbglaaGreatFlist
/- Arenas: a Take: its steps. -/
namespace Go.Proofs.YtbfafebfkdbglaaGreat
open Go.RowKit
set_option linter.unusedVariables false
attribute [local irreducible] K.KW K.RW K.DW K.OW K.QR K.KC
def intS (c : Cfg) (t : Int) : Int := threadS c t 1
def genS (c : Cfg) (s : Int) : Int := slotS c s 0
theorem at_told {c : Cfg} (hc : cfgOk c) {k t : Int} (hk : k = 7 ∨ k = 9 ∨ k = 10 ∨ k = 12) : atT (lasting c) (passing c) ⟨k, t, 0⟩ = toldS c ⟨k, t, 0⟩ := by
 have hl := lasting_len hc
 have hnp : ∀ j, j < (passing c).length → ¬ (passing c).getD j nm0 = ⟨k, t, 0⟩ := fun j hj e => by
  rw [pass_get hj] at e
  (repeat' split at e) <;> simp at e <;> omega
 have hp := first_no hnp (Nat.le_refl _)
 by_cases hm : (⟨k, t, 0⟩ : Nm) ∈ lasting c
 ·obtain ⟨h1, h2⟩ := first_mem hm
  unfold atT
  rw [if_pos h1]
  exact (told_last hc (n := ⟨k, t, 0⟩) (by show (1 : Int) < k; omega) h1 (by rw [h2]; exact ⟨rfl, rfl, rfl⟩)).symm
 ·have hnl : ∀ j, j < (lasting c).length → ¬ (lasting c).getD j nm0 = ⟨k, t, 0⟩ := fun j hj e => hm (by rw [← e]; exact getD_mem hj)
  have h1 := first_no hnl (Nat.le_refl _)
  unfold atT
  rw [h1, if_neg (by omega), hp, if_neg (by omega)]
  have := told_none hc (n := ⟨k, t, 0⟩) ⟨by show (5 : Int) ≤ k; omega, by show k ≤ 17; omega⟩ (fun h => by have h : k = 14 ∨ k = 15 := h; omega) (fun _ => rfl) hm (not_mem_of (fun j hj e => hnp j hj (nmIs_eq e)))
  exact hl.trans this.symm
theorem at_int {c : Cfg} (hc : cfgOk c) (s : Int) : atT (lasting c) (passing c) ⟨7, s, 0⟩ = intS c s := at_told hc (by omega)
theorem at_gen {c : Cfg} (hc : cfgOk c) (s : Int) : atT (lasting c) (passing c) ⟨9, s, 0⟩ = genS c s := at_told hc (by omega)
theorem int_int {c : Cfg} (hc : cfgOk c) (s : Int) : isInt (intS c s) := by
 have hb := lay_bd hc
 unfold cfgOk at hc
 unfold intS threadS wordS
 split <;> omega
theorem gen_int {c : Cfg} (hc : cfgOk c) (s : Int) : isInt (genS c s) := by
 have hb := lay_bd hc
 unfold cfgOk at hc
 unfold genS slotS wordS
 split <;> omega
structure TkS where
 t : Int
 part : Int
 again : Bool
 slot : Int
 gen : Int
 empty : Int
 pop : PopS
 adv : AdvS
 rc : RecS
def tkPop0 (t : Int) : PopS := ⟨t, 0, 0, 0, -1⟩
def tkAdv0 (t : Int) : AdvS := ⟨t, false, 0, 0, 0, false⟩
def tkRec0 (t : Int) : RecS := ⟨t, 0, 0, 0, -1, 0, ⟨0, 0, 0, 0⟩⟩
@[simp] theorem tkRec0_pc (t : Int) : (tkRec0 t).pc = 0 := rfl
def tkPop (S : TkS) (P : PopS) (cl : Int) : TkS :=
 if P.pc = 3 then (if ¬ P.slot = -1 then ⟨S.t, 5, S.again, P.slot, S.gen, S.empty, P, S.adv, S.rc⟩ else if S.again = true then ⟨S.t, 0, S.again, -1, S.gen, cl, P, S.adv, S.rc⟩ else ⟨S.t, 2, true, -1, S.gen, S.empty, P, tkAdv0 S.t, S.rc⟩)
 else ⟨S.t, S.part, S.again, S.slot, S.gen, S.empty, P, S.adv, S.rc⟩
def tkAdv (S : TkS) (A : AdvS) : TkS := if A.done = true then ⟨S.t, 3, S.again, S.slot, S.gen, S.empty, S.pop, A, tkRec0 S.t⟩ else ⟨S.t, S.part, S.again, S.slot, S.gen, S.empty, S.pop, A, S.rc⟩
def tkRec (S : TkS) (R : RecS) : TkS := if R.done = true then ⟨S.t, 4, S.again, S.slot, S.gen, S.empty, tkPop0 S.t, S.adv, R⟩ else ⟨S.t, S.part, S.again, S.slot, S.gen, S.empty, S.pop, S.adv, R⟩
def tkTo (S : TkS) (k : Int) : TkS := ⟨S.t, k, S.again, S.slot, S.gen, S.empty, S.pop, S.adv, S.rc⟩
def tkGen (S : TkS) (g : Int) : TkS := ⟨S.t, 9, S.again, S.slot, g, S.empty, S.pop, S.adv, S.rc⟩
def inc64x (x : Int) : Int := IntKind.u64.wrap (IntKind.u64.wrap x + 1)
def tkStep (c : Cfg) (n nt : Nat) (S : TkS) (M : MemM) : TkS × MemM :=
 if S.part = 0 then (S, M)
 else if S.part = 1 ∨ S.part = 4 then (tkPop S (popStep c n S.pop M).1 (popStep c n S.pop M).2.clock, (popStep c n S.pop M).2)
 else if S.part = 2 then (tkAdv S (advStep c n S.adv M).1, (advStep c n S.adv M).2)
 else if S.part = 3 then (tkRec S (recStep c n S.rc M).1, (recStep c n S.rc M).2)
 else if S.part = 5 then (tkTo S 6, (M.accS n S.t (intS c S.t) (inc64x S.slot)).1)
 else if S.part = 6 then (tkTo S 7, (M.accF n nt S.t (intS c S.t)).1)
 else if S.part = 7 then (tkTo S 8, (M.accE nt S.t).1)
 else if S.part = 8 then (tkGen S (M.accL n S.t (genS c S.slot)).2.old, (M.accL n S.t (genS c S.slot)).1)
 else (tkTo S 0, (M.accS n S.t (genS c S.slot) (inc64 S.gen)).1)
def TkS.done (S : TkS) : Bool := decide (S.part = 0)
def tkHolds (S : TkS) : Int := if ¬ S.slot = -1 then S.slot else recHolds S.rc
structure TkS.good (c : Cfg) (S : TkS) : Prop where
 t : isInt S.t
 part : 0 ≤ S.part ∧ S.part ≤ 9
 slot : isInt S.slot
 gen : isW S.gen
 empty : isInt S.empty
 pop : S.pop.good
 adv : S.adv.good
 rc : S.rc.good c
 sp : (S.part ≤ 4 ∧ 1 ≤ S.part → S.slot = -1) ∧ (5 ≤ S.part → ¬ S.slot = -1)
 ag : (S.part = 1 → S.again = false) ∧ (S.part = 2 ∨ S.part = 3 ∨ S.part = 4 → S.again = true)
 r5 : S.part = 4 ∨ (S.part = 0 ∧ S.slot = -1) → S.rc.pc = 5
 r0 : S.part = 1 ∨ S.part = 2 → S.rc = tkRec0 S.t
 pp : S.part = 1 ∨ S.part = 4 → ¬ S.pop.pc = 3
theorem tkPop0_good {t : Int} (h : isInt t) : (tkPop0 t).good := popInit h
theorem tkAdv0_good {t : Int} (h : isInt t) : (tkAdv0 t).good := ⟨h, isW00, ⟨Int.le_refl _, (by decide : (0 : Int) ≤ 64)⟩, .inr (.inl ⟨rfl, rfl⟩)⟩
theorem tkRec0_good {c : Cfg} (hc : cfgOk c) {t : Int} (h : isInt t) : (tkRec0 t).good c := by
 unfold cfgOk at hc
 exact ⟨h, isW00, by show isInt (-1); omega, by show (0 : Int) ≤ 0 ∧ (0 : Int) ≤ c.lo; omega, by show (0 : Int) ≤ 0 ∧ (0 : Int) ≤ 0; omega, .inl ⟨rfl, rfl⟩⟩
theorem popStep_slot {c : Cfg} {n : Nat} {S : PopS} {M : MemM} (h : isInt S.slot) : isInt (popStep c n S M).1.slot := by
 have ht : ∀ w, isInt (toI w) := fun w => by unfold toI; omega
 unfold popStep
 split
 ·exact h
 split
 ·exact h
 split
 ·exact h
 split
 ·exact ht _
 ·exact h
theorem i64s_intA (x : Int) : isInt (i64s x) := by
 have : i64s x = (x + 1 + 9223372036854775808) % 18446744073709551616 - 9223372036854775808 := by
  unfold i64s; simp [IntKind.wrap, IntKind.bits, IntKind.signed]; omega
 rw [this]; omega
theorem popStep_clk {c : Cfg} {n : Nat} {S : PopS} {M : MemM} (h : ¬ S.pc = 3) : isInt (popStep c n S M).2.clock := by
 unfold popStep
 rw [if_neg h]
 split
 ·exact i64s_intA _
 split
 ·exact i64s_intA _
 split
 ·exact i64s_intA _
 ·exact i64s_intA _
theorem accF_goodA {M : MemM} {n nt : Nat} {th i : Int} (h : M.good) : (M.accF n nt th i).1.good := by
 show MemM.good (MemM.count (if decide _ = true then _ else M) _ _)
 split
 ·exact h
 ·exact h
theorem accE_goodA {M : MemM} {nt : Nat} {th : Int} (h : M.good) : (M.accE nt th).1.good := by
 show MemM.good (MemM.count (if decide _ = true then _ else M) _ _)
 split
 ·have := fence_words (k := th.toNat) (D := M.dev) h.2
  exact ⟨h.1, this⟩
 ·exact h
theorem tkStep_good {c : Cfg} (hc : cfgOk c) {n nt : Nat} {S : TkS} {M : MemM} (h : S.good c) (hp : isInt S.pop.slot) (hM : M.good) : (tkStep c n nt S M).1.good c ∧ (tkStep c n nt S M).2.good := by
 obtain ⟨h1, h2, h3, h4, h5, h6, h7, h8, ⟨h9, h10⟩, ⟨h11, h12⟩, h13, h14, h15⟩ := h
 unfold tkStep
 split
 ·exact ⟨⟨h1, h2, h3, h4, h5, h6, h7, h8, ⟨h9, h10⟩, ⟨h11, h12⟩, h13, h14, h15⟩, hM⟩
 split
 ·obtain ⟨hg, hg2⟩ := popStep_good (c := c) (n := n) h6 hM
  have hsl := popStep_slot (c := c) (n := n) (M := M) hp
  refine ⟨?_, hg2⟩
  generalize (popStep c n S.pop M).1 = P at hg hsl
  unfold tkPop
  split
  ·by_cases h03 : ¬ P.slot = -1
   ·rw [if_pos h03]
    exact ⟨h1, by show (0 : Int) ≤ 5 ∧ (5 : Int) ≤ 9; omega, hsl, h4, h5, hg, h7, h8, ⟨fun h => by have h : (5 : Int) ≤ 4 ∧ _ := h; omega, fun _ => h03⟩, ⟨fun h => by have h : (5 : Int) = 1 := h; omega, fun h => by have h : (5 : Int) = 2 ∨ (5 : Int) = 3 ∨ (5 : Int) = 4 := h; omega⟩, fun h => by have h : (5 : Int) = 4 ∨ (5 : Int) = 0 ∧ _ := h; omega, fun h => by have h : (5 : Int) = 1 ∨ (5 : Int) = 2 := h; omega, fun h => by have h : (5 : Int) = 1 ∨ (5 : Int) = 4 := h; omega⟩
   rw [if_neg h03]
   split
   ·rename_i ha
    have hp4 : S.part = 4 := by
     rcases (by assumption : S.part = 1 ∨ S.part = 4) with h | h
     ·rw [h11 h] at ha; cases ha
     ·exact h
    exact ⟨h1, by show (0 : Int) ≤ 0 ∧ (0 : Int) ≤ 9; omega, by show isInt (-1); omega, h4, popStep_clk (h15 (by assumption)), hg, h7, h8, ⟨fun _ => rfl, fun h => by have h : (5 : Int) ≤ 0 := h; omega⟩, ⟨fun h => by have h : (0 : Int) = 1 := h; omega, fun h => by have h : (0 : Int) = 2 ∨ (0 : Int) = 3 ∨ (0 : Int) = 4 := h; omega⟩, fun _ => h13 (.inl hp4), fun h => by have h : (0 : Int) = 1 ∨ (0 : Int) = 2 := h; omega, fun h => by have h : (0 : Int) = 1 ∨ (0 : Int) = 4 := h; omega⟩
   ·rename_i ha
    have hp1 : S.part = 1 := by
     rcases (by assumption : S.part = 1 ∨ S.part = 4) with h | h
     ·exact h
     ·exact absurd (h12 (by omega)) ha
    exact ⟨h1, by show (0 : Int) ≤ 2 ∧ (2 : Int) ≤ 9; omega, by show isInt (-1); omega, h4, h5, hg, tkAdv0_good h1, h8, ⟨fun _ => rfl, fun h => by have h : (5 : Int) ≤ 2 := h; omega⟩, ⟨fun h => by have h : (2 : Int) = 1 := h; omega, fun _ => rfl⟩, fun h => by have h : (2 : Int) = 4 ∨ (2 : Int) = 0 ∧ _ := h; omega, fun _ => h14 (.inl hp1), fun h => by have h : (2 : Int) = 1 ∨ (2 : Int) = 4 := h; omega⟩
  ·rename_i hpc
   exact ⟨h1, h2, h3, h4, h5, hg, h7, h8, ⟨h9, h10⟩, ⟨h11, h12⟩, h13, h14, fun _ => hpc⟩
 split
 ·obtain ⟨hg, hg2⟩ := advStep_good (n := n) hc h7 hM
  refine ⟨?_, hg2⟩
  generalize (advStep c n S.adv M).1 = A at hg
  unfold tkAdv
  split
  ·exact ⟨h1, by show (0 : Int) ≤ 3 ∧ (3 : Int) ≤ 9; omega, h3, h4, h5, h6, hg, tkRec0_good hc h1, ⟨fun _ => h9 (by omega), fun h => by have h : (5 : Int) ≤ 3 := h; omega⟩, ⟨fun h => by have h : (3 : Int) = 1 := h; omega, fun _ => h12 (by omega)⟩, fun h => by have h : (3 : Int) = 4 ∨ (3 : Int) = 0 ∧ _ := h; omega, fun h => by have h : (3 : Int) = 1 ∨ (3 : Int) = 2 := h; omega, fun h => by have h : (3 : Int) = 1 ∨ (3 : Int) = 4 := h; omega⟩
  ·exact ⟨h1, h2, h3, h4, h5, h6, hg, h8, ⟨h9, h10⟩, ⟨h11, h12⟩, h13, h14, h15⟩
 split
 ·obtain ⟨hg, hg2⟩ := recStep_good hc (n := n) h8 hM
  refine ⟨?_, hg2⟩
  generalize (recStep c n S.rc M).1 = R at hg
  unfold tkRec
  split
  ·rename_i hd
   exact ⟨h1, by show (0 : Int) ≤ 4 ∧ (4 : Int) ≤ 9; omega, h3, h4, h5, tkPop0_good h1, h7, hg, ⟨fun _ => h9 (by omega), fun h => by have h : (5 : Int) ≤ 4 := h; omega⟩, ⟨fun h => by have h : (4 : Int) = 1 := h; omega, fun _ => h12 (by omega)⟩, fun _ => of_decide_eq_true hd, fun h => by have h : (4 : Int) = 1 ∨ (4 : Int) = 2 := h; omega, fun _ => by show ¬ (0 : Int) = 3; decide⟩
  ·exact ⟨h1, h2, h3, h4, h5, h6, h7, hg, ⟨h9, h10⟩, ⟨h11, h12⟩, fun h => by have h : S.part = 4 ∨ S.part = 0 ∧ _ := h; omega, fun h => by have h : S.part = 1 ∨ S.part = 2 := h; omega, h15⟩
 have to : ∀ k : Int, (k = 6 ∨ k = 7 ∨ k = 8 ∨ k = 9 ∨ k = 0) → 5 ≤ S.part → ¬ S.slot = -1 → (tkTo S k).good c := fun k hk hp5 hs => ⟨h1, by show 0 ≤ k ∧ k ≤ 9; omega, h3, h4, h5, h6, h7, h8, ⟨fun h => by have h : k ≤ 4 ∧ 1 ≤ k := h; omega, fun _ => hs⟩, ⟨fun h => by have h : k = 1 := h; omega, fun h => by have h : k = 2 ∨ k = 3 ∨ k = 4 := h; omega⟩, fun h => by have h : k = 4 ∨ k = 0 ∧ S.slot = -1 := h; omega, fun h => by have h : k = 1 ∨ k = 2 := h; omega, fun h => by have h : k = 1 ∨ k = 4 := h; omega⟩
 split
 ·exact ⟨to 6 (by omega) (by omega) (h10 (by omega)), accS_good hM (more_w _)⟩
 split
 ·exact ⟨to 7 (by omega) (by omega) (h10 (by omega)), accF_goodA hM⟩
 split
 ·exact ⟨to 8 (by omega) (by omega) (h10 (by omega)), accE_goodA hM⟩
 split
 ·have h9' := to 9 (by omega) (by omega) (h10 (by omega))
  exact ⟨⟨h1, h9'.part, h3, (accL_good (n := n) (th := S.t) (i := genS c S.slot) hM).2, h5, h6, h7, h8, h9'.sp, h9'.ag, h9'.r5, h9'.r0, h9'.pp⟩, (accL_good hM).1⟩
 ·exact ⟨to 0 (by omega) (by omega) (h10 (by omega)), accS_good hM (inc64_w _)⟩
abbrev fnV (k p : Nat) : Value := .func (.func k) [K.pa p].toArray [].toArray
abbrev tkPt (p b : Nat) (dn : Bool) (f : Value) (pa aa ra : Option Addr) (S : TkS) : K.Cs := [K.pt p 168 [K.pa b, K.iv S.t, .bool dn, f, .pointer pa, .pointer aa, .pointer ra, .bool S.again, K.iv S.slot, .int .u64 S.gen, K.iv S.empty]]
/-- what lies behind a Take -/
def TkTail (p b : Nat) (S : TkS) (f : Value) (pa aa ra : Option Addr) (g1 g2 : K.Cs) : Prop :=
 (S.part = 1 ∧ f = fnV 138 p ∧ (∃ q, pa = some ⟨q, 0, none⟩ ∧ g1 = popPt q b S.pop) ∧ ra = none)
 ∨ (S.part = 2 ∧ f = fnV 178 p ∧ (∃ q, aa = some ⟨q, 0, none⟩ ∧ g1 = advPt q b S.adv) ∧ ra = none)
 ∨ (S.part = 3 ∧ f = fnV 195 p ∧ ∃ r, ra = some ⟨r, 0, none⟩ ∧ RecEl r b S.rc g2)
 ∨ (S.part = 4 ∧ f = fnV 138 p ∧ (∃ q, pa = some ⟨q, 0, none⟩ ∧ g1 = popPt q b S.pop) ∧ ∃ r, ra = some ⟨r, 0, none⟩ ∧ RecEl r b S.rc g2)
 ∨ (S.part = 5 ∧ f = fnV 176 p) ∨ (S.part = 6 ∧ f = fnV 192 p) ∨ (S.part = 7 ∧ f = fnV 205 p) ∨ (S.part = 8 ∧ f = fnV 216 p) ∨ (S.part = 9 ∧ f = fnV 226 p)
 ∨ (S.part = 0 ∧ (¬ S.slot = -1 ∨ ∃ r, ra = some ⟨r, 0, none⟩ ∧ RecEl r b S.rc g2))
section
variable {p b : Nat} {S : TkS} {f : Value} {pa aa ra : Option Addr} {g1 g2 : K.Cs}
def TkRa (b : Nat) (S : TkS) (ra : Option Addr) (g2 : K.Cs) : Prop := (S.part = 1 ∧ ra = none) ∨ (S.part = 4 ∧ ∃ r, ra = some ⟨r, 0, none⟩ ∧ RecEl r b S.rc g2)
theorem tkT_pop {P : PopS} {q : Nat} (h : TkRa b S ra g2) (hg : g1 = popPt q b P) : TkTail p b ⟨S.t, S.part, S.again, S.slot, S.gen, S.empty, P, S.adv, S.rc⟩ (fnV 138 p) (some ⟨q, 0, none⟩) aa ra g1 g2 := by
 rcases h with ⟨h1, h2⟩ | ⟨h1, h2⟩
 ·exact .inl ⟨h1, rfl, ⟨q, rfl, hg⟩, h2⟩
 ·exact .inr (.inr (.inr (.inl ⟨h1, rfl, ⟨q, rfl, hg⟩, h2⟩)))
theorem tkRa_4 (h : TkRa b S ra g2) (ha : S.again = true) (hg : S.part = 1 → S.again = false) : ∃ r, ra = some ⟨r, 0, none⟩ ∧ RecEl r b S.rc g2 := by
 rcases h with ⟨h1, _⟩ | ⟨_, h2⟩
 ·rw [hg h1] at ha; cases ha
 ·exact h2
theorem tkRa_1 (h : TkRa b S ra g2) (ha : S.again = false) (hg : S.part = 2 ∨ S.part = 3 ∨ S.part = 4 → S.again = true) : ra = none := by
 rcases h with ⟨_, h2⟩ | ⟨h1, _⟩
 ·exact h2
 ·rw [hg (by omega)] at ha; cases ha
theorem tkT_5 {T : TkS} (h : T.part = 5) : TkTail p b T (fnV 176 p) pa aa ra g1 g2 := .inr (.inr (.inr (.inr (.inl ⟨h, rfl⟩))))
theorem tkT_6 {T : TkS} (h : T.part = 6) : TkTail p b T (fnV 192 p) pa aa ra g1 g2 := .inr (.inr (.inr (.inr (.inr (.inl ⟨h, rfl⟩)))))
theorem tkT_7 {T : TkS} (h : T.part = 7) : TkTail p b T (fnV 205 p) pa aa ra g1 g2 := .inr (.inr (.inr (.inr (.inr (.inr (.inl ⟨h, rfl⟩))))))
theorem tkT_8 {T : TkS} (h : T.part = 8) : TkTail p b T (fnV 216 p) pa aa ra g1 g2 := .inr (.inr (.inr (.inr (.inr (.inr (.inr (.inl ⟨h, rfl⟩)))))))
theorem tkT_9 {T : TkS} (h : T.part = 9) : TkTail p b T (fnV 226 p) pa aa ra g1 g2 := .inr (.inr (.inr (.inr (.inr (.inr (.inr (.inr (.inl ⟨h, rfl⟩))))))))
theorem tkT_0 {T : TkS} (h : T.part = 0) (h2 : ¬ T.slot = -1 ∨ ∃ r, ra = some ⟨r, 0, none⟩ ∧ RecEl r b T.rc g2) : TkTail p b T f pa aa ra g1 g2 := .inr (.inr (.inr (.inr (.inr (.inr (.inr (.inr (.inr ⟨h, h2⟩))))))))
theorem tkT_2 {T : TkS} {q : Nat} (h : T.part = 2) (hg : g1 = advPt q b T.adv) (hr : ra = none) : TkTail p b T (fnV 178 p) pa (some ⟨q, 0, none⟩) ra g1 g2 := .inr (.inl ⟨h, rfl, ⟨q, rfl, hg⟩, hr⟩)
theorem tkT_3 {T : TkS} {r : Nat} (h : T.part = 3) (hg : RecEl r b T.rc g2) : TkTail p b T (fnV 195 p) pa aa (some ⟨r, 0, none⟩) g1 g2 := .inr (.inr (.inl ⟨h, rfl, r, rfl, hg⟩))
theorem tkT_4 {T : TkS} {q r : Nat} (h : T.part = 4) (hg : g1 = popPt q b T.pop) (hr : RecEl r b T.rc g2) : TkTail p b T (fnV 138 p) (some ⟨q, 0, none⟩) aa (some ⟨r, 0, none⟩) g1 g2 := .inr (.inr (.inr (.inl ⟨h, rfl, ⟨q, rfl, hg⟩, r, rfl, hr⟩)))
variable {c : Cfg} {n nt : Nat} {M : MemM}
theorem tkS1 (h : S.part = 1 ∨ S.part = 4) : tkStep c n nt S M = (tkPop S (popStep c n S.pop M).1 (popStep c n S.pop M).2.clock, (popStep c n S.pop M).2) := by unfold tkStep; rw [if_neg (by omega), if_pos h]
theorem tkS2 (h : S.part = 2) : tkStep c n nt S M = (tkAdv S (advStep c n S.adv M).1, (advStep c n S.adv M).2) := by unfold tkStep; rw [if_neg (by omega), if_neg (by omega), if_pos h]
theorem tkS3 (h : S.part = 3) : tkStep c n nt S M = (tkRec S (recStep c n S.rc M).1, (recStep c n S.rc M).2) := by unfold tkStep; rw [if_neg (by omega), if_neg (by omega), if_neg (by omega), if_pos h]
theorem tkS5 (h : S.part = 5) : tkStep c n nt S M = (tkTo S 6, (M.accS n S.t (intS c S.t) (inc64x S.slot)).1) := by unfold tkStep; rw [if_neg (by omega), if_neg (by omega), if_neg (by omega), if_neg (by omega), if_pos h]
theorem tkS6 (h : S.part = 6) : tkStep c n nt S M = (tkTo S 7, (M.accF n nt S.t (intS c S.t)).1) := by unfold tkStep; rw [if_neg (by omega), if_neg (by omega), if_neg (by omega), if_neg (by omega), if_neg (by omega), if_pos h]
theorem tkS7 (h : S.part = 7) : tkStep c n nt S M = (tkTo S 8, (M.accE nt S.t).1) := by unfold tkStep; rw [if_neg (by omega), if_neg (by omega), if_neg (by omega), if_neg (by omega), if_neg (by omega), if_neg (by omega), if_pos h]
theorem tkS8 (h : S.part = 8) : tkStep c n nt S M = (tkGen S (M.accL n S.t (genS c S.slot)).2.old, (M.accL n S.t (genS c S.slot)).1) := by unfold tkStep; rw [if_neg (by omega), if_neg (by omega), if_neg (by omega), if_neg (by omega), if_neg (by omega), if_neg (by omega), if_neg (by omega), if_pos h]
theorem tkS9 (h : S.part = 9) : tkStep c n nt S M = (tkTo S 0, (M.accS n S.t (genS c S.slot) (inc64 S.gen)).1) := by unfold tkStep; rw [if_neg (by omega), if_neg (by omega), if_neg (by omega), if_neg (by omega), if_neg (by omega), if_neg (by omega), if_neg (by omega), if_neg (by omega)]
theorem tkS0 (h : S.part = 0) : tkStep c n nt S M = (S, M) := if_pos h
theorem tkdn {T : TkS} {k : Int} (h : T.part = k) (hk : ¬ k = 0) : false = T.done := (decide_eq_false (by show ¬ T.part = 0; omega)).symm
theorem tk_dn {dn : Bool} {gp : K.Cs} (h : gp = tkPt p b dn f pa aa ra S) (hd : dn = S.done) : gp = tkPt p b S.done f pa aa ra S := by rw [← hd]; exact h
end
set_option maxHeartbeats 1000000 in
set_option maxRecDepth 100000 in
theorem tkPops_ok (w0 : World) (p b : Nat) (dn : Bool) (f : Value) (pa aa ra : Option Addr) (S : TkS) (gp : K.Cs) (hgp : gp = tkPt p b dn f pa aa ra S) (ht : isInt S.t) :
  K.GC Tryz.prog w0 91 #[K.pa p] [gp] (fun v post => ∃ gp' q g1, v = .tuple #[] ∧ post = [gp', g1] ∧ gp' = tkPt p b dn (fnV 138 p) (some ⟨q, 0, none⟩) aa ra S ∧ g1 = popPt q b (tkPop0 S.t)) := by
 refine K.GC.mk (n := 21) Tryz.func91 rfl rfl [K.pa p] rfl rfl ?_
 intro fr w hS
 replace hS : K.Sat w0 [gp, fr] w := hS
 refine K.s ?_
 refine K.KW.gdrawn [0] hS (by kernel_rfl) ?_
 clear hS; intro w hS
 refine K.p 0 rfl (K.pa p) (hS.pick [0]) ?_
 refine K.p 1 rfl (K.pa p) (hS.pick [0]) ?_
 refine K.p 2 rfl (K.pa p) (hS.pick [0]) ?_
 refine K.p 3 rfl (K.pa p) (hS.pick [0]) ?_
 refine K.p 4 rfl (K.pa p) (hS.pick [0]) ?_
 refine K.o_ 5 rfl (K.pa b) (fun w hS => ((hS.blk 0 rfl hgp).cell rfl)) (hS.pick [0]) ?_
 refine K.b 6 rfl (K.pa p) (hS.pick [0]) ?_
 refine K.b 7 rfl (K.pa p) (hS.pick [0]) ?_
 refine K.b 8 rfl (K.pa p) (hS.pick [0]) ?_
 refine K.b 9 rfl (.pointer (some ⟨p, 1, none⟩)) (hS.pick [0]) ?_
 refine K.c 10 rfl (K.QR.ld1 (v := K.iv S.t) rfl rfl (by kernel_rfl) ((hS.blk 0 rfl hgp).cell rfl)) (hS.pick [0]) ?_
 refine K.DW.l 11 rfl (by kernel_rfl) rfl (K.OW.gcall hS [] [0, 1] [K.pa b, K.iv S.t] (newPop_ok _ _ S.t) ?_)
 clear hS; rintro _ _ w ⟨p_1, g_2, rfl, rfl, h_3⟩ hS
 replace hS : K.Sat w0 [g_2, gp, fr] w := hS
 have hS_4 : PopS.good (⟨S.t, 0, 0, 0, -1⟩ : PopS) := popInit (by omega)
 refine ⟨.inl (hS.pick [1]), ?_⟩
 refine K.b 12 rfl (K.pa p) (hS.pick [1]) ?_
 refine K.b 13 rfl (.pointer (some ⟨p, 4, none⟩)) (hS.pick [1]) ?_
 refine K.DW.l 14 rfl (by kernel_rfl) rfl (K.OW.gst 1 [K.pa p_1] _ hS hgp ?_)
 clear hS; intro w g_5 hg_6 hS
 replace hS : K.Sat w0 [g_2, g_5, fr] w := hS
 refine ⟨.inr (by kernel_rfl), ?_⟩
 refine K.DW.done (by kernel_rfl) ?_
 refine K.t (K.g (K.q [K.pa p, K.pa p] ?_))
 refine K.a (K.QR.fn [K.pa p] [] rfl rfl rfl) ?_
 refine K.q [K.pa p, .pointer (some ⟨p, 3, none⟩)] ?_
 refine K.l (K.OW.gst 1 [.func (.func 138) [K.pa p].toArray [].toArray] _ hS hg_6 ?_)
 clear hS; intro w g_7 hg_8 hS
 replace hS : K.Sat w0 [g_2, g_7, fr] w := hS
 refine K.z ?_
 refine ⟨.inl rfl, rfl, (.tuple #[]), K.res0 rfl, [g_7, g_2], ?_, hS.pick [1, 0, 2]⟩
 exact ⟨_, _, _, rfl, rfl, hg_8, h_3⟩
set_option maxHeartbeats 1000000 in
set_option maxRecDepth 100000 in
theorem tkPopped_ok (w0 : World) (p b pm q n t : Nat) (qp : Nat) (aa ra : Option Addr) (c : Cfg) (hc : cfgOk c) (S : TkS) (M : MemM) (gp g1 g2 gl l : K.Cs) (hgp : gp = tkPt p b false (fnV 138 p) ((some ⟨qp, 0, none⟩)) (aa) (ra) S) (hg1 : g1 = popPt qp b S.pop) (hp : S.part = 1 ∨ S.part = 4) (hra : TkRa b S ra g2) (hgl : gl = layPt b c) (x : MemAt l pm q n t M) (hM : M.good) (hS : S.good c) :
  K.GC Tryz.prog w0 138 #[K.pa p, K.pa pm] [gp, g1, g2, gl, l] (fun v post => ∃ f' pa' aa' ra' gp' g1' g2' l', v = .tuple #[] ∧ post = [gp', g1', g2', gl, l'] ∧ gp' = tkPt p b (tkStep c n t S M).1.done f' pa' aa' ra' (tkStep c n t S M).1 ∧ TkTail p b (tkStep c n t S M).1 f' pa' aa' ra' g1' g2' ∧ MemAt l' pm q n t (tkStep c n t S M).2) := by
 have hSt := hS.t; have hSs := hS.slot; have hSg := hS.gen; have hSe := hS.empty; have hSp := hS.pop; have hSa := hS.adv; have hSr := hS.rc; have hag := hS.ag; have hsp := hS.sp; have hpp := hS.pp; have hp9 := hS.part
 refine K.GC.mk (n := 66) Tryz.func138 rfl rfl [K.pa p, K.pa pm] rfl rfl ?_
 intro fr w hS
 replace hS : K.Sat w0 [gp, g1, g2, gl, l, fr] w := hS
 refine K.s (K.s (K.g (K.q [K.pa p, K.pa p, .pointer (some ⟨p, 4, none⟩)] ?_)))
 refine K.d (K.pa qp) ((hS.blk 0 rfl hgp).cell rfl) ?_
 refine K.q [K.pa pm] ?_
 refine K.l (K.OW.gcall hS [1, 3, 4] [0, 2, 5] [K.pa qp, K.pa pm] (popStep_ok _ _ _ _ _ _ _ c (by first | assumption | (unfold cfgOk; decide)) S.pop _ _ _ _ hg1 hgl x (by assumption) (by assumption)) ?_)
 clear hS; rintro _ _ w ⟨g_1, l_2, rfl, rfl, h_3, x_4⟩ hS
 replace hS : K.Sat w0 [g_1, gl, l_2, gp, g2, fr] w := hS
 obtain ⟨hS_5, hM_6⟩ := (popStep_good (by assumption) (by assumption) : (popStep c n S.pop M).1.good ∧ (popStep c n S.pop M).2.good)
 cases hb_7 : (decide ((popStep c n S.pop M).1.pc = 3))
 ·
  refine K.q [.bool true] (K.z (K.t (K.h (K.r (K.u ?_)))))
  have e : tkStep c n t S M = _ := tkS1 hp
  rw [show tkPop S (popStep c n S.pop M).1 (popStep c n S.pop M).2.clock = _ from if_neg (of_decide_eq_false hb_7)] at e
  refine ⟨.inr rfl, rfl, (.tuple #[]), K.res0 rfl, [gp, g_1, g2, gl, l_2], ?_, hS.pick [3, 0, 4, 1, 2, 5]⟩
  exact ⟨.func (.func 138) [K.pa p].toArray [].toArray, ((some ⟨qp, 0, none⟩)), (aa), (ra), _, _, _, _, rfl, rfl, by rw [e]; exact tk_dn hgp ((tkdn (k := S.part) rfl (by omega))), by rw [e]; exact tkT_pop hra h_3, by rw [e]; exact x_4⟩
 ·
  refine K.q [.bool false] (K.z (K.t (K.f (K.k (K.t (K.s (K.g (K.q [K.pa p, K.pa p, K.pa p, .pointer (some ⟨p, 4, none⟩)] ?_))))))))
  refine K.d (K.pa qp) ((hS.blk 3 rfl hgp).cell rfl) ?_
  refine K.l (K.OW.gcall hS [0] [1, 2, 3, 4, 5] [K.pa qp] (popSlot_ok _ _ _ (popStep c n S.pop M).1 _ h_3) ?_)
  clear hS; rintro _ _ w ⟨rfl, rfl⟩ hS
  replace hS : K.Sat w0 [g_1, gl, l_2, gp, g2, fr] w := hS
  refine K.q [K.pa p, .pointer (some ⟨p, 8, none⟩)] ?_
  refine K.l (K.OW.gst 3 [K.iv ((popStep c n S.pop M).1.slot)] _ hS hgp ?_)
  clear hS; intro w g_8 hg_9 hS
  replace hS : K.Sat w0 [g_1, gl, l_2, g_8, g2, fr] w := hS
  refine K.z (K.t ?_)
  refine K.KW.block ?_
  refine K.s (K.g (K.q [K.pa p, K.pa p, .pointer (some ⟨p, 8, none⟩)] ?_))
  refine K.d (K.iv ((popStep c n S.pop M).1.slot)) ((hS.blk 3 rfl hg_9).cell rfl) ?_
  by_cases h_10 : ((popStep c n S.pop M).1.slot : Int) = ((-1) : Int)
  ·
   refine K.xn ((popStep c n S.pop M).1.slot : Int) ((-1) : Int) h_10 ?_
   refine K.q [.bool false] (K.z (K.t (K.f (K.s (K.g (K.q [K.pa p, K.pa p, .pointer (some ⟨p, 7, none⟩)] ?_))))))
   refine K.d (.bool S.again) ((hS.blk 3 rfl hg_9).cell rfl) ?_
   cases hb_11 : S.again
   ·
    refine K.q [.bool false] (K.z (K.t (K.f (K.s (K.g (K.q [K.pa p, K.pa p, .pointer (some ⟨p, 7, none⟩)] ?_))))))
    refine K.l (K.OW.gst 3 [.bool true] _ hS hg_9 ?_)
    clear hS; intro w g_12 hg_13 hS
    replace hS : K.Sat w0 [g_1, gl, l_2, g_12, g2, fr] w := hS
    refine K.z (K.t (K.s ?_))
    refine K.KW.gdrawn [3] hS (by kernel_rfl) ?_
    clear hS; intro w hS
    refine K.p 0 rfl (K.pa p) (hS.pick [3]) ?_
    refine K.p 1 rfl (K.pa p) (hS.pick [3]) ?_
    refine K.p 2 rfl (K.pa p) (hS.pick [3]) ?_
    refine K.p 3 rfl (K.pa p) (hS.pick [3]) ?_
    refine K.p 4 rfl (K.pa p) (hS.pick [3]) ?_
    refine K.o_ 5 rfl (K.pa b) (fun w hS => ((hS.blk 0 rfl hg_13).cell rfl)) (hS.pick [3]) ?_
    refine K.b 6 rfl (K.pa p) (hS.pick [3]) ?_
    refine K.b 7 rfl (K.pa p) (hS.pick [3]) ?_
    refine K.b 8 rfl (K.pa p) (hS.pick [3]) ?_
    refine K.b 9 rfl (.pointer (some ⟨p, 1, none⟩)) (hS.pick [3]) ?_
    refine K.c 10 rfl (K.QR.ld1 (v := K.iv S.t) rfl rfl (by kernel_rfl) ((hS.blk 3 rfl hg_13).cell rfl)) (hS.pick [3]) ?_
    refine K.DW.l 11 rfl (by kernel_rfl) rfl (K.OW.gcall hS [] [0, 1, 2, 3, 4, 5] [K.pa b, K.iv S.t] (newadv_ok _ _ S.t) ?_)
    clear hS; rintro _ _ w ⟨p_14, g_15, rfl, rfl, h_16⟩ hS
    replace hS : K.Sat w0 [g_15, g_1, gl, l_2, g_12, g2, fr] w := hS
    have hS_17 : AdvS.good (⟨S.t, false, 0, 0, 0, false⟩ : AdvS) := ⟨(by omega : isInt S.t), isW00, ⟨Int.le_refl _, (by decide : (0 : Int) ≤ 64)⟩, .inr (.inl ⟨rfl, rfl⟩)⟩
    refine ⟨.inl (hS.pick [4]), ?_⟩
    refine K.b 12 rfl (K.pa p) (hS.pick [4]) ?_
    refine K.b 13 rfl (.pointer (some ⟨p, 5, none⟩)) (hS.pick [4]) ?_
    refine K.DW.l 14 rfl (by kernel_rfl) rfl (K.OW.gst 4 [K.pa p_14] _ hS hg_13 ?_)
    clear hS; intro w g_18 hg_19 hS
    replace hS : K.Sat w0 [g_15, g_1, gl, l_2, g_18, g2, fr] w := hS
    refine ⟨.inr (by kernel_rfl), ?_⟩
    refine K.DW.done (by kernel_rfl) ?_
    refine K.t (K.g (K.q [K.pa p, K.pa p] ?_))
    refine K.a (K.QR.fn [K.pa p] [] rfl rfl rfl) ?_
    refine K.q [K.pa p, .pointer (some ⟨p, 3, none⟩)] ?_
    refine K.l (K.OW.gst 4 [.func (.func 178) [K.pa p].toArray [].toArray] _ hS hg_19 ?_)
    clear hS; intro w g_20 hg_21 hS
    replace hS : K.Sat w0 [g_15, g_1, gl, l_2, g_20, g2, fr] w := hS
    refine K.z ?_
    refine K.blk_normal ?_
    have hgz := hg_21
    rw [h_10] at hgz
    have e : tkStep c n t S M = _ := tkS1 hp
    rw [show tkPop S (popStep c n S.pop M).1 (popStep c n S.pop M).2.clock = ⟨S.t, 2, true, -1, S.gen, S.empty, (popStep c n S.pop M).1, tkAdv0 S.t, S.rc⟩ from by unfold tkPop; rw [if_pos (of_decide_eq_true hb_7), if_neg (fun h => h h_10), if_neg (by rw [hb_11]; decide)]] at e
    refine ⟨.inl rfl, rfl, (.tuple #[]), K.res0 rfl, [g_20, g_15, g2, gl, l_2], ?_, hS.pick [4, 0, 5, 2, 3, 6]⟩
    exact ⟨.func (.func 178) [K.pa p].toArray [].toArray, ((some ⟨qp, 0, none⟩)), ((some ⟨p_14, 0, none⟩)), (ra), _, _, _, _, rfl, rfl, by rw [e]; exact tk_dn hgz (rfl), by rw [e]; exact tkT_2 rfl h_16 (tkRa_1 (S := S) hra hb_11 hag.2), by rw [e]; exact x_4⟩
   ·
    refine K.q [.bool true] (K.z (K.t (K.h (K.g (K.q [K.pa p, K.pa p, K.pa pm] ?_)))))
    refine K.l (K.OW.gcall hS [2] [0, 1, 3, 4, 5] [K.pa pm] (mClock_ok _ _ _ _ _ _ _ x_4 ) ?_)
    clear hS; rintro _ _ w ⟨rfl, rfl⟩ hS
    replace hS : K.Sat w0 [l_2, g_1, gl, g_8, g2, fr] w := hS
    refine K.q [K.pa p, .pointer (some ⟨p, 10, none⟩)] ?_
    refine K.l (K.OW.gst 3 [K.iv (((popStep c n S.pop M).2).clock)] _ hS hg_9 ?_)
    clear hS; intro w g_22 hg_23 hS
    replace hS : K.Sat w0 [l_2, g_1, gl, g_22, g2, fr] w := hS
    refine K.q [K.pa p, K.pa p, .pointer (some ⟨p, 2, none⟩)] ?_
    refine K.l (K.OW.gst 3 [.bool true] _ hS hg_23 ?_)
    clear hS; intro w g_24 hg_25 hS
    replace hS : K.Sat w0 [l_2, g_1, gl, g_24, g2, fr] w := hS
    refine K.z ?_
    refine K.blk_normal ?_
    have hgz := hg_25
    rw [h_10] at hgz
    have e : tkStep c n t S M = _ := tkS1 hp
    rw [show tkPop S (popStep c n S.pop M).1 (popStep c n S.pop M).2.clock = ⟨S.t, 0, S.again, -1, S.gen, (popStep c n S.pop M).2.clock, (popStep c n S.pop M).1, S.adv, S.rc⟩ from by unfold tkPop; rw [if_pos (of_decide_eq_true hb_7), if_neg (fun h => h h_10), if_pos hb_11]] at e
    refine ⟨.inl rfl, rfl, (.tuple #[]), K.res0 rfl, [g_24, g_1, g2, gl, l_2], ?_, hS.pick [3, 1, 4, 2, 0, 5]⟩
    exact ⟨.func (.func 138) [K.pa p].toArray [].toArray, ((some ⟨qp, 0, none⟩)), (aa), (ra), _, _, _, _, rfl, rfl, by rw [e]; exact tk_dn hgz (rfl), by rw [e]; exact tkT_0 rfl (.inr (tkRa_4 (S := S) hra hb_11 hag.1)), by rw [e]; exact x_4⟩
  ·
   refine K.yn ((popStep c n S.pop M).1.slot : Int) ((-1) : Int) h_10 ?_
   refine K.q [.bool true] (K.z (K.t (K.h (K.g (K.q [K.pa p, K.pa p] ?_)))))
   refine K.a (K.QR.fn [K.pa p] [] rfl rfl rfl) ?_
   refine K.q [K.pa p, .pointer (some ⟨p, 3, none⟩)] ?_
   refine K.l (K.OW.gst 3 [.func (.func 176) [K.pa p].toArray [].toArray] _ hS hg_9 ?_)
   clear hS; intro w g_26 hg_27 hS
   replace hS : K.Sat w0 [g_1, gl, l_2, g_26, g2, fr] w := hS
   refine K.z ?_
   refine K.blk_normal ?_
   have e : tkStep c n t S M = _ := tkS1 hp
   rw [show tkPop S (popStep c n S.pop M).1 (popStep c n S.pop M).2.clock = ⟨S.t, 5, S.again, (popStep c n S.pop M).1.slot, S.gen, S.empty, (popStep c n S.pop M).1, S.adv, S.rc⟩ from by unfold tkPop; rw [if_pos (of_decide_eq_true hb_7), if_pos h_10]] at e
   refine ⟨.inl rfl, rfl, (.tuple #[]), K.res0 rfl, [g_26, g_1, g2, gl, l_2], ?_, hS.pick [3, 0, 4, 1, 2, 5]⟩
   exact ⟨.func (.func 176) [K.pa p].toArray [].toArray, ((some ⟨qp, 0, none⟩)), (aa), (ra), _, _, _, _, rfl, rfl, by rw [e]; exact tk_dn hg_27 (rfl), by rw [e]; exact tkT_5 rfl, by rw [e]; exact x_4⟩
set_option maxHeartbeats 1000000 in
set_option maxRecDepth 100000 in
theorem tkAdv_ok (w0 : World) (p b pm q n t : Nat) (qa : Nat) (pa ra : Option Addr) (c : Cfg) (hc : cfgOk c) (S : TkS) (M : MemM) (gp g1 g2 gl l : K.Cs) (hgp : gp = tkPt p b false (fnV 178 p) (pa) ((some ⟨qa, 0, none⟩)) (ra) S) (hg1 : g1 = advPt qa b S.adv) (hp : S.part = 2) (hra : ra = none) (hgl : gl = layPt b c) (x : MemAt l pm q n t M) (hM : M.good) (hS : S.good c) :
  K.GC Tryz.prog w0 178 #[K.pa p, K.pa pm] [gp, g1, g2, gl, l] (fun v post => ∃ f' pa' aa' ra' gp' g1' g2' l', v = .tuple #[] ∧ post = [gp', g1', g2', gl, l'] ∧ gp' = tkPt p b (tkStep c n t S M).1.done f' pa' aa' ra' (tkStep c n t S M).1 ∧ TkTail p b (tkStep c n t S M).1 f' pa' aa' ra' g1' g2' ∧ MemAt l' pm q n t (tkStep c n t S M).2) := by
 have hSt := hS.t; have hSs := hS.slot; have hSg := hS.gen; have hSe := hS.empty; have hSp := hS.pop; have hSa := hS.adv; have hSr := hS.rc; have hag := hS.ag; have hsp := hS.sp; have hpp := hS.pp; have hp9 := hS.part
 refine K.GC.mk (n := 29) Tryz.func178 rfl rfl [K.pa p, K.pa pm] rfl rfl ?_
 intro fr w hS
 replace hS : K.Sat w0 [gp, g1, g2, gl, l, fr] w := hS
 refine K.s (K.g (K.q [K.pa p, K.pa p, .pointer (some ⟨p, 5, none⟩)] ?_))
 refine K.d (K.pa qa) ((hS.blk 0 rfl hgp).cell rfl) ?_
 refine K.q [K.pa pm] ?_
 refine K.l (K.OW.gcall hS [1, 3, 4] [0, 2, 5] [K.pa qa, K.pa pm] (advStep_ok _ _ _ _ _ _ _ c (by first | assumption | (unfold cfgOk; decide)) S.adv M _ _ _ hg1 hgl x (by assumption) (by assumption)) ?_)
 clear hS; rintro _ _ w ⟨g_1, l_2, rfl, rfl, h_3, x_4⟩ hS
 replace hS : K.Sat w0 [g_1, gl, l_2, gp, g2, fr] w := hS
 obtain ⟨hS_5, hM_6⟩ := (advStep_good (by first | assumption | (unfold cfgOk; decide)) (by assumption) (by assumption) : (advStep c n S.adv M).1.good ∧ (advStep c n S.adv M).2.good)
 cases hb_7 : (advStep c n S.adv M).1.done
 ·
  refine K.z (K.t (K.f (K.k ?_)))
  have e : tkStep c n t S M = _ := tkS2 hp
  rw [show tkAdv S (advStep c n S.adv M).1 = _ from if_neg (by rw [hb_7]; decide)] at e
  refine ⟨.inl rfl, rfl, (.tuple #[]), K.res0 rfl, [gp, g_1, g2, gl, l_2], ?_, hS.pick [3, 0, 4, 1, 2, 5]⟩
  exact ⟨.func (.func 178) [K.pa p].toArray [].toArray, (pa), ((some ⟨qa, 0, none⟩)), (ra), _, _, _, _, rfl, rfl, by rw [e]; exact tk_dn hgp ((tkdn (k := 2) hp (by omega))), by rw [e]; exact tkT_2 hp h_3 hra, by rw [e]; exact x_4⟩
 ·
  refine K.z (K.t (K.h (K.s ?_)))
  refine K.KW.gdrawn [3] hS (by kernel_rfl) ?_
  clear hS; intro w hS
  refine K.p 0 rfl (K.pa p) (hS.pick [3]) ?_
  refine K.p 1 rfl (K.pa p) (hS.pick [3]) ?_
  refine K.p 2 rfl (K.pa p) (hS.pick [3]) ?_
  refine K.p 3 rfl (K.pa p) (hS.pick [3]) ?_
  refine K.p 4 rfl (K.pa p) (hS.pick [3]) ?_
  refine K.o_ 5 rfl (K.pa b) (fun w hS => ((hS.blk 0 rfl hgp).cell rfl)) (hS.pick [3]) ?_
  refine K.b 6 rfl (K.pa p) (hS.pick [3]) ?_
  refine K.b 7 rfl (K.pa p) (hS.pick [3]) ?_
  refine K.b 8 rfl (K.pa p) (hS.pick [3]) ?_
  refine K.b 9 rfl (.pointer (some ⟨p, 1, none⟩)) (hS.pick [3]) ?_
  refine K.c 10 rfl (K.QR.ld1 (v := K.iv S.t) rfl rfl (by kernel_rfl) ((hS.blk 3 rfl hgp).cell rfl)) (hS.pick [3]) ?_
  refine K.DW.l 11 rfl (by kernel_rfl) rfl (K.OW.gcall hS [] [0, 1, 2, 3, 4, 5] [K.pa b, K.iv S.t] (newrec_ok _ b S.t) ?_)
  clear hS; rintro _ _ w ⟨p_8, g_9, rfl, rfl, h_10⟩ hS
  replace hS : K.Sat w0 [g_9, g_1, gl, l_2, gp, g2, fr] w := hS
  refine ⟨.inl (hS.pick [4]), ?_⟩
  refine K.b 12 rfl (K.pa p) (hS.pick [4]) ?_
  refine K.b 13 rfl (.pointer (some ⟨p, 6, none⟩)) (hS.pick [4]) ?_
  refine K.DW.l 14 rfl (by kernel_rfl) rfl (K.OW.gst 4 [K.pa p_8] _ hS hgp ?_)
  clear hS; intro w g_11 hg_12 hS
  replace hS : K.Sat w0 [g_9, g_1, gl, l_2, g_11, g2, fr] w := hS
  refine ⟨.inr (by kernel_rfl), ?_⟩
  refine K.DW.done (by kernel_rfl) ?_
  refine K.t (K.g (K.q [K.pa p, K.pa p] ?_))
  refine K.a (K.QR.fn [K.pa p] [] rfl rfl rfl) ?_
  refine K.q [K.pa p, .pointer (some ⟨p, 3, none⟩)] ?_
  refine K.l (K.OW.gst 4 [.func (.func 195) [K.pa p].toArray [].toArray] _ hS hg_12 ?_)
  clear hS; intro w g_13 hg_14 hS
  replace hS : K.Sat w0 [g_9, g_1, gl, l_2, g_13, g2, fr] w := hS
  refine K.z ?_
  have e : tkStep c n t S M = _ := tkS2 hp
  rw [show tkAdv S (advStep c n S.adv M).1 = _ from if_pos hb_7] at e
  refine ⟨.inl rfl, rfl, (.tuple #[]), K.res0 rfl, [g_13, g_1, g_9, gl, l_2], ?_, hS.pick [4, 1, 0, 2, 3, 6]⟩
  exact ⟨.func (.func 195) [K.pa p].toArray [].toArray, (pa), ((some ⟨qa, 0, none⟩)), ((some ⟨p_8, 0, none⟩)), _, _, _, _, rfl, rfl, by rw [e]; exact tk_dn hg_14 (rfl), by rw [e]; exact tkT_3 rfl (.inl ⟨by simp, _, h_10⟩), by rw [e]; exact x_4⟩
set_option maxHeartbeats 1000000 in
set_option maxRecDepth 100000 in
theorem tkRec_ok (w0 : World) (p b pm q n t : Nat) (r : Nat) (pa aa : Option Addr) (c : Cfg) (hc : cfgOk c) (S : TkS) (M : MemM) (gp g1 g2 gl l : K.Cs) (hgp : gp = tkPt p b false (fnV 195 p) (pa) (aa) ((some ⟨r, 0, none⟩)) S) (hg2 : RecEl r b S.rc g2) (hp : S.part = 3) (hgl : gl = layPt b c) (x : MemAt l pm q n t M) (hM : M.good) (hS : S.good c) :
  K.GC Tryz.prog w0 195 #[K.pa p, K.pa pm] [gp, g1, g2, gl, l] (fun v post => ∃ f' pa' aa' ra' gp' g1' g2' l', v = .tuple #[] ∧ post = [gp', g1', g2', gl, l'] ∧ gp' = tkPt p b (tkStep c n t S M).1.done f' pa' aa' ra' (tkStep c n t S M).1 ∧ TkTail p b (tkStep c n t S M).1 f' pa' aa' ra' g1' g2' ∧ MemAt l' pm q n t (tkStep c n t S M).2) := by
 have hSt := hS.t; have hSs := hS.slot; have hSg := hS.gen; have hSe := hS.empty; have hSp := hS.pop; have hSa := hS.adv; have hSr := hS.rc; have hag := hS.ag; have hsp := hS.sp; have hpp := hS.pp; have hp9 := hS.part
 refine K.GC.mk (n := 12) Tryz.func195 rfl rfl [K.pa p, K.pa pm] rfl rfl ?_
 intro fr w hS
 replace hS : K.Sat w0 [gp, g1, g2, gl, l, fr] w := hS
 refine K.s (K.g (K.q [K.pa p, K.pa p, .pointer (some ⟨p, 6, none⟩)] ?_))
 refine K.d (K.pa r) ((hS.blk 0 rfl hgp).cell rfl) ?_
 refine K.q [K.pa pm] ?_
 refine K.l (K.OW.gcall hS [2, 3, 4] [0, 1, 5] [K.pa r, K.pa pm] (recStep_ok _ _ _ _ _ _ _ c (by first | assumption | (unfold cfgOk; decide)) S.rc M _ _ _ hg2 hgl x (by assumption) (by assumption)) ?_)
 clear hS; rintro _ _ w ⟨g_1, l_2, rfl, rfl, h_3, x_4⟩ hS
 replace hS : K.Sat w0 [g_1, gl, l_2, gp, g1, fr] w := hS
 obtain ⟨hS_5, hM_6⟩ := (recStep_good (by first | assumption | (unfold cfgOk; decide)) (by assumption) (by assumption) : (recStep c n S.rc M).1.good c ∧ (recStep c n S.rc M).2.good)
 cases hb_7 : (recStep c n S.rc M).1.done
 ·
  refine K.z (K.t (K.f (K.k ?_)))
  have e : tkStep c n t S M = _ := tkS3 hp
  rw [show tkRec S (recStep c n S.rc M).1 = _ from if_neg (by rw [hb_7]; decide)] at e
  refine ⟨.inl rfl, rfl, (.tuple #[]), K.res0 rfl, [gp, g1, g_1, gl, l_2], ?_, hS.pick [3, 4, 0, 1, 2, 5]⟩
  exact ⟨.func (.func 195) [K.pa p].toArray [].toArray, (pa), (aa), ((some ⟨r, 0, none⟩)), _, _, _, _, rfl, rfl, by rw [e]; exact tk_dn hgp ((tkdn (k := 3) hp (by omega))), by rw [e]; exact tkT_3 hp h_3, by rw [e]; exact x_4⟩
 ·
  refine K.z (K.t (K.h (K.g (K.q [K.pa p] ?_))))
  refine K.l (K.OW.gcall hS [3] [0, 1, 2, 4, 5] [K.pa p] (tkPops_ok _ _ _ _ _ _ _ _ S _ hgp hSt) ?_)
  clear hS; rintro _ _ w ⟨g_8, q_9, k_10, rfl, rfl, h_11, e_12⟩ hS
  replace hS : K.Sat w0 [g_8, k_10, g_1, gl, l_2, g1, fr] w := hS
  refine K.z ?_
  have e : tkStep c n t S M = _ := tkS3 hp
  rw [show tkRec S (recStep c n S.rc M).1 = _ from if_pos hb_7] at e
  refine ⟨.inl rfl, rfl, (.tuple #[]), K.res0 rfl, [g_8, k_10, g_1, gl, l_2], ?_, hS.pick [0, 1, 2, 3, 4, 6]⟩
  exact ⟨.func (.func 138) [K.pa p].toArray [].toArray, ((some ⟨q_9, 0, none⟩)), (aa), ((some ⟨r, 0, none⟩)), _, _, _, _, rfl, rfl, by rw [e]; exact tk_dn h_11 (rfl), by rw [e]; exact tkT_4 rfl e_12 h_3, by rw [e]; exact x_4⟩
set_option maxHeartbeats 1000000 in
set_option maxRecDepth 100000 in
theorem tkP5_ok (w0 : World) (p b pm q n t : Nat) (pa aa ra : Option Addr) (c : Cfg) (hc : cfgOk c) (S : TkS) (M : MemM) (gp g1 g2 gl l : K.Cs) (hgp : gp = tkPt p b false (fnV 176 p) (pa) (aa) (ra) S) (hp : S.part = 5) (hgl : gl = layPt b c) (x : MemAt l pm q n t M) (hM : M.good) (hS : S.good c) :
  K.GC Tryz.prog w0 176 #[K.pa p, K.pa pm] [gp, g1, g2, gl, l] (fun v post => ∃ f' pa' aa' ra' gp' g1' g2' l', v = .tuple #[] ∧ post = [gp', g1', g2', gl, l'] ∧ gp' = tkPt p b (tkStep c n t S M).1.done f' pa' aa' ra' (tkStep c n t S M).1 ∧ TkTail p b (tkStep c n t S M).1 f' pa' aa' ra' g1' g2' ∧ MemAt l' pm q n t (tkStep c n t S M).2) := by
 have hSt := hS.t; have hSs := hS.slot; have hSg := hS.gen; have hSe := hS.empty; have hSp := hS.pop; have hSa := hS.adv; have hSr := hS.rc; have hag := hS.ag; have hsp := hS.sp; have hpp := hS.pp; have hp9 := hS.part
 refine K.GC.mk (n := 33) Tryz.func176 rfl rfl [K.pa p, K.pa pm] rfl rfl ?_
 intro fr w hS
 replace hS : K.Sat w0 [gp, g1, g2, gl, l, fr] w := hS
 refine K.s ?_
 refine K.KW.gdrawn [0] hS (by kernel_rfl) ?_
 clear hS; intro w hS
 refine K.p 0 rfl (K.pa pm) (hS.pick [0]) ?_
 refine K.p 1 rfl (K.pa p) (hS.pick [0]) ?_
 refine K.p 2 rfl (K.pa p) (hS.pick [0]) ?_
 refine K.p 3 rfl (K.pa p) (hS.pick [0]) ?_
 refine K.p 4 rfl (.pointer (some ⟨p, 1, none⟩)) (hS.pick [0]) ?_
 refine K.o_ 5 rfl (K.iv S.t) (fun w hS => ((hS.blk 0 rfl hgp).cell rfl)) (hS.pick [0]) ?_
 refine K.p 6 rfl (K.pa p) (hS.pick [0]) ?_
 refine K.p 7 rfl (K.pa p) (hS.pick [0]) ?_
 refine K.p 8 rfl (K.pa p) (hS.pick [0]) ?_
 refine K.p 9 rfl (K.pa p) (hS.pick [0]) ?_
 refine K.o_ 10 rfl (K.pa b) (fun w hS => ((hS.blk 0 rfl hgp).cell rfl)) (hS.pick [0]) ?_
 refine K.p 11 rfl (K.pa p) (hS.pick [0]) ?_
 refine K.p 12 rfl (K.pa p) (hS.pick [0]) ?_
 refine K.p 13 rfl (K.pa p) (hS.pick [0]) ?_
 refine K.p 14 rfl (.pointer (some ⟨p, 1, none⟩)) (hS.pick [0]) ?_
 refine K.o_ 15 rfl (K.iv S.t) (fun w hS => ((hS.blk 0 rfl hgp).cell rfl)) (hS.pick [0]) ?_
 refine K.p 17 rfl (K.pa p) (hS.pick [0]) ?_
 refine K.p 18 rfl (K.pa p) (hS.pick [0]) ?_
 refine K.p 19 rfl (.pointer (some ⟨p, 8, none⟩)) (hS.pick [0]) ?_
 refine K.o_ 20 rfl (K.iv S.slot) (fun w hS => ((hS.blk 0 rfl hgp).cell rfl)) (hS.pick [0]) ?_
 refine K.p 21 rfl (.int .u64 (IntKind.u64.wrap S.slot)) (hS.pick [0]) ?_
 refine K.p 22 rfl (.int .u64 (IntKind.u64.wrap ((IntKind.u64.wrap S.slot : Int) + (1 : Int)))) (hS.pick [0]) ?_
 refine K.DW.l 16 rfl (by kernel_rfl) rfl (K.OW.kcall hS [K.pa b, K.iv S.t] (lIntent _ c S.t _ (by assumption) (hS.blk 3 rfl hgl)) ?_)
 rintro _ w ⟨rfl, c_1⟩
 replace hS := hS.no c_1
 have hi_2 : isInt (intS c S.t) := int_int (by assumption) _
 refine ⟨.inl (hS.pick [0]), ?_⟩
 refine K.DW.l 23 rfl (by kernel_rfl) rfl (K.OW.gcall hS [4] [0, 1, 2, 3, 5] [K.pa pm, K.iv S.t, K.iv (intS c S.t), .int .u64 (IntKind.u64.wrap ((IntKind.u64.wrap S.slot : Int) + (1 : Int)))] (mStore_ok _ _ _ _ _ _ _ x S.t (intS c S.t) (by first | omega | assumption | exact int_int (by assumption) _ | exact gen_int (by assumption) _ | exact aft_int (by assumption) _ | exact ann_int (by assumption) _ (by omega)) (IntKind.u64.wrap ((IntKind.u64.wrap S.slot : Int) + (1 : Int)))) ?_)
 clear hS; rintro _ _ w ⟨l_3, rfl, rfl, x_4⟩ hS
 replace hS : K.Sat w0 [l_3, gp, g1, g2, gl, fr] w := hS
 refine ⟨.inl (hS.pick [1]), ?_⟩
 refine K.DW.done (by kernel_rfl) ?_
 refine K.t (K.g (K.q [K.pa p, K.pa p] ?_))
 refine K.a (K.QR.fn [K.pa p] [] rfl rfl rfl) ?_
 refine K.q [K.pa p, .pointer (some ⟨p, 3, none⟩)] ?_
 refine K.l (K.OW.gst 1 [.func (.func 192) [K.pa p].toArray [].toArray] _ hS hgp ?_)
 clear hS; intro w g_5 hg_6 hS
 replace hS : K.Sat w0 [l_3, g_5, g1, g2, gl, fr] w := hS
 refine K.z ?_
 have e : tkStep c n t S M = _ := tkS5 hp
 refine ⟨.inl rfl, rfl, (.tuple #[]), K.res0 rfl, [g_5, g1, g2, gl, l_3], ?_, hS.pick [1, 2, 3, 4, 0, 5]⟩
 exact ⟨.func (.func 192) [K.pa p].toArray [].toArray, (pa), (aa), (ra), _, _, _, _, rfl, rfl, by rw [e]; exact tk_dn hg_6 (rfl), by rw [e]; exact tkT_6 rfl, by rw [e]; exact x_4⟩
set_option maxHeartbeats 1000000 in
set_option maxRecDepth 100000 in
theorem tkP6_ok (w0 : World) (p b pm q n t : Nat) (pa aa ra : Option Addr) (c : Cfg) (hc : cfgOk c) (S : TkS) (M : MemM) (gp g1 g2 gl l : K.Cs) (hgp : gp = tkPt p b false (fnV 192 p) (pa) (aa) (ra) S) (hp : S.part = 6) (hgl : gl = layPt b c) (x : MemAt l pm q n t M) (hM : M.good) (hS : S.good c) :
  K.GC Tryz.prog w0 192 #[K.pa p, K.pa pm] [gp, g1, g2, gl, l] (fun v post => ∃ f' pa' aa' ra' gp' g1' g2' l', v = .tuple #[] ∧ post = [gp', g1', g2', gl, l'] ∧ gp' = tkPt p b (tkStep c n t S M).1.done f' pa' aa' ra' (tkStep c n t S M).1 ∧ TkTail p b (tkStep c n t S M).1 f' pa' aa' ra' g1' g2' ∧ MemAt l' pm q n t (tkStep c n t S M).2) := by
 have hSt := hS.t; have hSs := hS.slot; have hSg := hS.gen; have hSe := hS.empty; have hSp := hS.pop; have hSa := hS.adv; have hSr := hS.rc; have hag := hS.ag; have hsp := hS.sp; have hpp := hS.pp; have hp9 := hS.part
 refine K.GC.mk (n := 27) Tryz.func192 rfl rfl [K.pa p, K.pa pm] rfl rfl ?_
 intro fr w hS
 replace hS : K.Sat w0 [gp, g1, g2, gl, l, fr] w := hS
 refine K.s ?_
 refine K.KW.gdrawn [0] hS (by kernel_rfl) ?_
 clear hS; intro w hS
 refine K.p 0 rfl (K.pa pm) (hS.pick [0]) ?_
 refine K.p 1 rfl (K.pa p) (hS.pick [0]) ?_
 refine K.p 2 rfl (K.pa p) (hS.pick [0]) ?_
 refine K.p 3 rfl (K.pa p) (hS.pick [0]) ?_
 refine K.p 4 rfl (.pointer (some ⟨p, 1, none⟩)) (hS.pick [0]) ?_
 refine K.o_ 5 rfl (K.iv S.t) (fun w hS => ((hS.blk 0 rfl hgp).cell rfl)) (hS.pick [0]) ?_
 refine K.p 6 rfl (K.pa p) (hS.pick [0]) ?_
 refine K.p 7 rfl (K.pa p) (hS.pick [0]) ?_
 refine K.p 8 rfl (K.pa p) (hS.pick [0]) ?_
 refine K.p 9 rfl (K.pa p) (hS.pick [0]) ?_
 refine K.o_ 10 rfl (K.pa b) (fun w hS => ((hS.blk 0 rfl hgp).cell rfl)) (hS.pick [0]) ?_
 refine K.b 11 rfl (K.pa p) (hS.pick [0]) ?_
 refine K.b 12 rfl (K.pa p) (hS.pick [0]) ?_
 refine K.b 13 rfl (K.pa p) (hS.pick [0]) ?_
 refine K.b 14 rfl (.pointer (some ⟨p, 1, none⟩)) (hS.pick [0]) ?_
 refine K.c 15 rfl (K.QR.ld1 (v := K.iv S.t) rfl rfl (by kernel_rfl) ((hS.blk 0 rfl hgp).cell rfl)) (hS.pick [0]) ?_
 refine K.DW.l 16 rfl (by kernel_rfl) rfl (K.OW.kcall hS [K.pa b, K.iv S.t] (lIntent _ c S.t _ (by assumption) (hS.blk 3 rfl hgl)) ?_)
 rintro _ w ⟨rfl, c_1⟩
 replace hS := hS.no c_1
 have hi_2 : isInt (intS c S.t) := int_int (by assumption) _
 refine ⟨.inl (hS.pick [0]), ?_⟩
 refine K.DW.l 17 rfl (by kernel_rfl) rfl (K.OW.gcall hS [4] [0, 1, 2, 3, 5] [K.pa pm, K.iv S.t, K.iv (intS c S.t)] (mFlush_ok _ _ _ _ _ _ _ x S.t (by omega) (intS c S.t) (by omega)) ?_)
 clear hS; rintro _ _ w ⟨l_3, rfl, rfl, x_4⟩ hS
 replace hS : K.Sat w0 [l_3, gp, g1, g2, gl, fr] w := hS
 refine ⟨.inl (hS.pick [1]), ?_⟩
 refine K.DW.done (by kernel_rfl) ?_
 refine K.t (K.g (K.q [K.pa p, K.pa p] ?_))
 refine K.a (K.QR.fn [K.pa p] [] rfl rfl rfl) ?_
 refine K.q [K.pa p, .pointer (some ⟨p, 3, none⟩)] ?_
 refine K.l (K.OW.gst 1 [.func (.func 205) [K.pa p].toArray [].toArray] _ hS hgp ?_)
 clear hS; intro w g_5 hg_6 hS
 replace hS : K.Sat w0 [l_3, g_5, g1, g2, gl, fr] w := hS
 refine K.z ?_
 have e : tkStep c n t S M = _ := tkS6 hp
 refine ⟨.inl rfl, rfl, (.tuple #[]), K.res0 rfl, [g_5, g1, g2, gl, l_3], ?_, hS.pick [1, 2, 3, 4, 0, 5]⟩
 exact ⟨.func (.func 205) [K.pa p].toArray [].toArray, (pa), (aa), (ra), _, _, _, _, rfl, rfl, by rw [e]; exact tk_dn hg_6 (rfl), by rw [e]; exact tkT_7 rfl, by rw [e]; exact x_4⟩
set_option maxHeartbeats 1000000 in
set_option maxRecDepth 100000 in
theorem tkP7_ok (w0 : World) (p b pm q n t : Nat) (pa aa ra : Option Addr) (c : Cfg) (hc : cfgOk c) (S : TkS) (M : MemM) (gp g1 g2 gl l : K.Cs) (hgp : gp = tkPt p b false (fnV 205 p) (pa) (aa) (ra) S) (hp : S.part = 7) (hgl : gl = layPt b c) (x : MemAt l pm q n t M) (hM : M.good) (hS : S.good c) :
  K.GC Tryz.prog w0 205 #[K.pa p, K.pa pm] [gp, g1, g2, gl, l] (fun v post => ∃ f' pa' aa' ra' gp' g1' g2' l', v = .tuple #[] ∧ post = [gp', g1', g2', gl, l'] ∧ gp' = tkPt p b (tkStep c n t S M).1.done f' pa' aa' ra' (tkStep c n t S M).1 ∧ TkTail p b (tkStep c n t S M).1 f' pa' aa' ra' g1' g2' ∧ MemAt l' pm q n t (tkStep c n t S M).2) := by
 have hSt := hS.t; have hSs := hS.slot; have hSg := hS.gen; have hSe := hS.empty; have hSp := hS.pop; have hSa := hS.adv; have hSr := hS.rc; have hag := hS.ag; have hsp := hS.sp; have hpp := hS.pp; have hp9 := hS.part
 refine K.GC.mk (n := 16) Tryz.func205 rfl rfl [K.pa p, K.pa pm] rfl rfl ?_
 intro fr w hS
 replace hS : K.Sat w0 [gp, g1, g2, gl, l, fr] w := hS
 refine K.s (K.g (K.q [K.pa pm, K.pa p, K.pa p, K.pa p, .pointer (some ⟨p, 1, none⟩)] ?_))
 refine K.d (K.iv S.t) ((hS.blk 0 rfl hgp).cell rfl) ?_
 refine K.l (K.OW.gcall hS [4] [0, 1, 2, 3, 5] [K.pa pm, K.iv S.t] (mFence_ok _ _ _ _ _ _ _ x S.t (by omega)) ?_)
 clear hS; rintro _ _ w ⟨l_1, rfl, rfl, x_2⟩ hS
 replace hS : K.Sat w0 [l_1, gp, g1, g2, gl, fr] w := hS
 refine K.z (K.t (K.g (K.q [K.pa p, K.pa p] ?_)))
 refine K.a (K.QR.fn [K.pa p] [] rfl rfl rfl) ?_
 refine K.q [K.pa p, .pointer (some ⟨p, 3, none⟩)] ?_
 refine K.l (K.OW.gst 1 [.func (.func 216) [K.pa p].toArray [].toArray] _ hS hgp ?_)
 clear hS; intro w g_3 hg_4 hS
 replace hS : K.Sat w0 [l_1, g_3, g1, g2, gl, fr] w := hS
 refine K.z ?_
 have e : tkStep c n t S M = _ := tkS7 hp
 refine ⟨.inl rfl, rfl, (.tuple #[]), K.res0 rfl, [g_3, g1, g2, gl, l_1], ?_, hS.pick [1, 2, 3, 4, 0, 5]⟩
 exact ⟨.func (.func 216) [K.pa p].toArray [].toArray, (pa), (aa), (ra), _, _, _, _, rfl, rfl, by rw [e]; exact tk_dn hg_4 (rfl), by rw [e]; exact tkT_8 rfl, by rw [e]; exact x_2⟩
set_option maxHeartbeats 1000000 in
set_option maxRecDepth 100000 in
theorem tkP8_ok (w0 : World) (p b pm q n t : Nat) (pa aa ra : Option Addr) (c : Cfg) (hc : cfgOk c) (S : TkS) (M : MemM) (gp g1 g2 gl l : K.Cs) (hgp : gp = tkPt p b false (fnV 216 p) (pa) (aa) (ra) S) (hp : S.part = 8) (hgl : gl = layPt b c) (x : MemAt l pm q n t M) (hM : M.good) (hS : S.good c) :
  K.GC Tryz.prog w0 216 #[K.pa p, K.pa pm] [gp, g1, g2, gl, l] (fun v post => ∃ f' pa' aa' ra' gp' g1' g2' l', v = .tuple #[] ∧ post = [gp', g1', g2', gl, l'] ∧ gp' = tkPt p b (tkStep c n t S M).1.done f' pa' aa' ra' (tkStep c n t S M).1 ∧ TkTail p b (tkStep c n t S M).1 f' pa' aa' ra' g1' g2' ∧ MemAt l' pm q n t (tkStep c n t S M).2) := by
 have hSt := hS.t; have hSs := hS.slot; have hSg := hS.gen; have hSe := hS.empty; have hSp := hS.pop; have hSa := hS.adv; have hSr := hS.rc; have hag := hS.ag; have hsp := hS.sp; have hpp := hS.pp; have hp9 := hS.part
 refine K.GC.mk (n := 29) Tryz.func216 rfl rfl [K.pa p, K.pa pm] rfl rfl ?_
 intro fr w hS
 replace hS : K.Sat w0 [gp, g1, g2, gl, l, fr] w := hS
 refine K.s ?_
 refine K.KW.gdrawn [0] hS (by kernel_rfl) ?_
 clear hS; intro w hS
 refine K.p 0 rfl (K.pa p) (hS.pick [0]) ?_
 refine K.p 1 rfl (K.pa pm) (hS.pick [0]) ?_
 refine K.p 2 rfl (K.pa p) (hS.pick [0]) ?_
 refine K.p 3 rfl (K.pa p) (hS.pick [0]) ?_
 refine K.p 4 rfl (K.pa p) (hS.pick [0]) ?_
 refine K.p 5 rfl (.pointer (some ⟨p, 1, none⟩)) (hS.pick [0]) ?_
 refine K.o_ 6 rfl (K.iv S.t) (fun w hS => ((hS.blk 0 rfl hgp).cell rfl)) (hS.pick [0]) ?_
 refine K.p 7 rfl (K.pa p) (hS.pick [0]) ?_
 refine K.p 8 rfl (K.pa p) (hS.pick [0]) ?_
 refine K.p 9 rfl (K.pa p) (hS.pick [0]) ?_
 refine K.p 10 rfl (K.pa p) (hS.pick [0]) ?_
 refine K.o_ 11 rfl (K.pa b) (fun w hS => ((hS.blk 0 rfl hgp).cell rfl)) (hS.pick [0]) ?_
 refine K.b 12 rfl (K.pa p) (hS.pick [0]) ?_
 refine K.b 13 rfl (K.pa p) (hS.pick [0]) ?_
 refine K.b 14 rfl (.pointer (some ⟨p, 8, none⟩)) (hS.pick [0]) ?_
 refine K.c 15 rfl (K.QR.ld1 (v := K.iv S.slot) rfl rfl (by kernel_rfl) ((hS.blk 0 rfl hgp).cell rfl)) (hS.pick [0]) ?_
 refine K.DW.l 16 rfl (by kernel_rfl) rfl (K.OW.kcall hS [K.pa b, K.iv S.slot] (lGen _ c S.slot _ (by assumption) (hS.blk 3 rfl hgl)) ?_)
 rintro _ w ⟨rfl, c_1⟩
 replace hS := hS.no c_1
 have hi_2 : isInt (genS c S.slot) := gen_int (by assumption) _
 refine ⟨.inl (hS.pick [0]), ?_⟩
 refine K.DW.l 17 rfl (by kernel_rfl) rfl (K.OW.gcall hS [4] [0, 1, 2, 3, 5] [K.pa pm, K.iv S.t, K.iv (genS c S.slot)] (mLoad_ok _ _ _ _ _ _ _ x S.t (genS c S.slot) (by first | omega | assumption | exact int_int (by assumption) _ | exact gen_int (by assumption) _ | exact aft_int (by assumption) _ | exact ann_int (by assumption) _ (by omega)) ) ?_)
 clear hS; rintro _ _ w ⟨l_3, rfl, rfl, x_4⟩ hS
 replace hS : K.Sat w0 [l_3, gp, g1, g2, gl, fr] w := hS
 have hw_5 : isW (M.accL n S.t (genS c S.slot)).2.old := (accL_good (by assumption)).2
 refine ⟨.inl (hS.pick [1]), ?_⟩
 refine K.b 18 rfl (K.pa p) (hS.pick [1]) ?_
 refine K.b 19 rfl (.pointer (some ⟨p, 9, none⟩)) (hS.pick [1]) ?_
 refine K.DW.l 20 rfl (by kernel_rfl) rfl (K.OW.gst 1 [.int .u64 ((M.accL n S.t (genS c S.slot)).2.old)] _ hS hgp ?_)
 clear hS; intro w g_6 hg_7 hS
 replace hS : K.Sat w0 [l_3, g_6, g1, g2, gl, fr] w := hS
 refine ⟨.inr (by kernel_rfl), ?_⟩
 refine K.DW.done (by kernel_rfl) ?_
 refine K.t (K.g (K.q [K.pa p, K.pa p] ?_))
 refine K.a (K.QR.fn [K.pa p] [] rfl rfl rfl) ?_
 refine K.q [K.pa p, .pointer (some ⟨p, 3, none⟩)] ?_
 refine K.l (K.OW.gst 1 [.func (.func 226) [K.pa p].toArray [].toArray] _ hS hg_7 ?_)
 clear hS; intro w g_8 hg_9 hS
 replace hS : K.Sat w0 [l_3, g_8, g1, g2, gl, fr] w := hS
 refine K.z ?_
 have e : tkStep c n t S M = _ := tkS8 hp
 refine ⟨.inl rfl, rfl, (.tuple #[]), K.res0 rfl, [g_8, g1, g2, gl, l_3], ?_, hS.pick [1, 2, 3, 4, 0, 5]⟩
 exact ⟨.func (.func 226) [K.pa p].toArray [].toArray, (pa), (aa), (ra), _, _, _, _, rfl, rfl, by rw [e]; exact tk_dn hg_9 (rfl), by rw [e]; exact tkT_9 rfl, by rw [e]; exact x_4⟩
set_option maxHeartbeats 1000000 in
set_option maxRecDepth 100000 in
theorem tkP9_ok (w0 : World) (p b pm q n t : Nat) (pa aa ra : Option Addr) (c : Cfg) (hc : cfgOk c) (S : TkS) (M : MemM) (gp g1 g2 gl l : K.Cs) (hgp : gp = tkPt p b false (fnV 226 p) (pa) (aa) (ra) S) (hp : S.part = 9) (hgl : gl = layPt b c) (x : MemAt l pm q n t M) (hM : M.good) (hS : S.good c) :
  K.GC Tryz.prog w0 226 #[K.pa p, K.pa pm] [gp, g1, g2, gl, l] (fun v post => ∃ f' pa' aa' ra' gp' g1' g2' l', v = .tuple #[] ∧ post = [gp', g1', g2', gl, l'] ∧ gp' = tkPt p b (tkStep c n t S M).1.done f' pa' aa' ra' (tkStep c n t S M).1 ∧ TkTail p b (tkStep c n t S M).1 f' pa' aa' ra' g1' g2' ∧ MemAt l' pm q n t (tkStep c n t S M).2) := by
 have hSt := hS.t; have hSs := hS.slot; have hSg := hS.gen; have hSe := hS.empty; have hSp := hS.pop; have hSa := hS.adv; have hSr := hS.rc; have hag := hS.ag; have hsp := hS.sp; have hpp := hS.pp; have hp9 := hS.part
 refine K.GC.mk (n := 30) Tryz.func226 rfl rfl [K.pa p, K.pa pm] rfl rfl ?_
 intro fr w hS
 replace hS : K.Sat w0 [gp, g1, g2, gl, l, fr] w := hS
 refine K.s ?_
 refine K.KW.gdrawn [0] hS (by kernel_rfl) ?_
 clear hS; intro w hS
 refine K.p 0 rfl (K.pa pm) (hS.pick [0]) ?_
 refine K.p 1 rfl (K.pa p) (hS.pick [0]) ?_
 refine K.p 2 rfl (K.pa p) (hS.pick [0]) ?_
 refine K.p 3 rfl (K.pa p) (hS.pick [0]) ?_
 refine K.p 4 rfl (.pointer (some ⟨p, 1, none⟩)) (hS.pick [0]) ?_
 refine K.o_ 5 rfl (K.iv S.t) (fun w hS => ((hS.blk 0 rfl hgp).cell rfl)) (hS.pick [0]) ?_
 refine K.p 6 rfl (K.pa p) (hS.pick [0]) ?_
 refine K.p 7 rfl (K.pa p) (hS.pick [0]) ?_
 refine K.p 8 rfl (K.pa p) (hS.pick [0]) ?_
 refine K.p 9 rfl (K.pa p) (hS.pick [0]) ?_
 refine K.o_ 10 rfl (K.pa b) (fun w hS => ((hS.blk 0 rfl hgp).cell rfl)) (hS.pick [0]) ?_
 refine K.p 11 rfl (K.pa p) (hS.pick [0]) ?_
 refine K.p 12 rfl (K.pa p) (hS.pick [0]) ?_
 refine K.p 13 rfl (.pointer (some ⟨p, 8, none⟩)) (hS.pick [0]) ?_
 refine K.o_ 14 rfl (K.iv S.slot) (fun w hS => ((hS.blk 0 rfl hgp).cell rfl)) (hS.pick [0]) ?_
 refine K.p 16 rfl (K.pa p) (hS.pick [0]) ?_
 refine K.p 17 rfl (K.pa p) (hS.pick [0]) ?_
 refine K.p 18 rfl (.pointer (some ⟨p, 9, none⟩)) (hS.pick [0]) ?_
 refine K.o_ 19 rfl (.int .u64 S.gen) (fun w hS => ((hS.blk 0 rfl hgp).cell rfl)) (hS.pick [0]) ?_
 refine K.m 20 rfl (fun w hS => K.QR.turn (v := .int .u64 (IntKind.u64.wrap ((S.gen : Int) + (1 : Int)))) (K.QR.k (v := .int .u64 (IntKind.u64.wrap ((S.gen : Int) + (1 : Int)))) (by kernel_rfl)) (congrArg (Value.int .u64) (show (IntKind.u64.wrap ((S.gen : Int) + (1 : Int)) : Int) = (inc64 S.gen : Int) from wrapU _))) (hS.pick [0]) ?_
 refine K.DW.l 15 rfl (by kernel_rfl) rfl (K.OW.kcall hS [K.pa b, K.iv S.slot] (lGen _ c S.slot _ (by assumption) (hS.blk 3 rfl hgl)) ?_)
 rintro _ w ⟨rfl, c_1⟩
 replace hS := hS.no c_1
 have hi_2 : isInt (genS c S.slot) := gen_int (by assumption) _
 refine ⟨.inl (hS.pick [0]), ?_⟩
 refine K.DW.l 21 rfl (by kernel_rfl) rfl (K.OW.gcall hS [4] [0, 1, 2, 3, 5] [K.pa pm, K.iv S.t, K.iv (genS c S.slot), .int .u64 (inc64 S.gen)] (mStore_ok _ _ _ _ _ _ _ x S.t (genS c S.slot) (by first | omega | assumption | exact int_int (by assumption) _ | exact gen_int (by assumption) _ | exact aft_int (by assumption) _ | exact ann_int (by assumption) _ (by omega)) (inc64 S.gen)) ?_)
 clear hS; rintro _ _ w ⟨l_3, rfl, rfl, x_4⟩ hS
 replace hS : K.Sat w0 [l_3, gp, g1, g2, gl, fr] w := hS
 refine ⟨.inl (hS.pick [1]), ?_⟩
 refine K.DW.done (by kernel_rfl) ?_
 refine K.t (K.g (K.q [K.pa p, K.pa p, K.pa p, .pointer (some ⟨p, 2, none⟩)] ?_))
 refine K.l (K.OW.gst 1 [.bool true] _ hS hgp ?_)
 clear hS; intro w g_5 hg_6 hS
 replace hS : K.Sat w0 [l_3, g_5, g1, g2, gl, fr] w := hS
 refine K.z ?_
 have e : tkStep c n t S M = _ := tkS9 hp
 refine ⟨.inl rfl, rfl, (.tuple #[]), K.res0 rfl, [g_5, g1, g2, gl, l_3], ?_, hS.pick [1, 2, 3, 4, 0, 5]⟩
 exact ⟨.func (.func 226) [K.pa p].toArray [].toArray, (pa), (aa), (ra), _, _, _, _, rfl, rfl, by rw [e]; exact tk_dn hg_6 (rfl), by rw [e]; exact tkT_0 rfl (.inl (hsp.2 (by omega))), by rw [e]; exact x_4⟩
end Go.Proofs.YtbfafebfkdbglaaGreat
