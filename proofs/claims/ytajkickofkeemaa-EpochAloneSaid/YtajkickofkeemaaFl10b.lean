/- Layer 10: several threads; plain laws. -/
import Derived.Test.YtajkickofkeemaaLl10w
import Derived.Test.YtajkickofkeemaaKj
import Derived.Test.YtajkickofkeemaaLl9a
namespace Go.Proofs.Ytajkickofkeemaa
open Go.RowKit
set_option linter.unusedVariables false
attribute [local irreducible] K.KW K.RW K.DW K.OW K.QR K.KC

def cVal (v : Value) : List Value := [v]
section
variable {M : MemM} {n : Nat} {i j w th old : Int}
theorem put_peekN (hi : i < 0) (hl : -1 - i < M.pass.length) : (M.put i w).peek n j = if j = i then some w else M.peek n j := by
 rw [putP (by omega)]
 by_cases h : j = i
 ·subst h
  rw [if_pos rfl]
  have hl2 : (-1 - j).toNat < M.pass.length := by omega
  rw [peek_pass (by simp; omega)]; simp [hl2]
 ·rw [if_neg h]
  unfold MemM.peek
  by_cases hj : 0 ≤ j
  ·rw [if_pos hj, if_pos hj]
  ·rw [if_neg hj, if_neg hj]
   have hne : ¬ (-1 - i).toNat = (-1 - j).toNat := by omega
   simp [List.getD_eq_getElem?_getD, List.getElem?_set, hne]
theorem accL_peek : (M.accL n th i).1.peek n j = M.peek n j := rfl
theorem accS_peek (hi : i < 0) : (M.accS n th i w).1.peek n j = if j = i ∧ -1 - i < M.pass.length then some w else M.peek n j := by
 show (MemM.count (if (M.peek n i).isSome then M.put i w else M) _ _).peek n j = _
 by_cases hl : -1 - i < M.pass.length
 ·have hs : (M.peek n i).isSome = true := by rw [peek_pass ⟨hi, hl⟩]; rfl
  rw [if_pos hs]
  show (M.put i w).peek n j = _
  rw [put_peekN hi hl]
  by_cases h : j = i
  ·rw [if_pos h, if_pos ⟨h, hl⟩]
  ·rw [if_neg h, if_neg (fun x => h x.1)]
 ·have hs : ¬ (M.peek n i).isSome = true := by rw [peek_nopass hi (by omega)]; simp
  rw [if_neg hs, if_neg (fun x => hl x.2)]; rfl
theorem accW_peek (hi : i < 0) : (M.accW n th i old w).1.peek n j = if j = i ∧ M.peek n i = some old then some w else M.peek n j := by
 show (MemM.count (if (M.peek n i == some old) = true then M.put i w else M) _ _).peek n j = _
 by_cases h : M.peek n i = some old
 ·rw [if_pos (by simpa using h)]
  show (M.put i w).peek n j = _
  have hl : -1 - i < M.pass.length := by
   rcases peek_some h with h1 | h1
   ·omega
   ·exact h1.2
  rw [put_peekN hi hl]
  by_cases hj : j = i
  ·rw [if_pos hj, if_pos ⟨hj, h⟩]
  ·rw [if_neg hj, if_neg (fun x => hj x.1)]
 ·rw [if_neg (by simpa using h), if_neg (fun x => h x.2)]; rfl
theorem accW_done : (M.accW n th i old w).2.done = (M.peek n i == some old) := rfl
end
def advEl (b : Nat) : Option AdvS → List Value → K.Cs → Prop
 | none, c, g => c = [.pointer none] ∧ g = []
 | some S, c, g => ∃ p, c = [.pointer (some ⟨p, 0, none⟩)] ∧ g = advPt p b S
section
variable {c : Cfg} {n : Nat} {S : AdvS} {M : MemM} {e : Int}
/-- a step of an advance moves the epoch by 1, or leaves it -/
theorem advStep_one (hd : S.done = false) (hm : S.moved = false) (he : M.peek n (-1) = some e) (h64 : 0 ≤ e ∧ e < 18446744073709551615) :
  ((advStep c n S M).1.moved = true ∧ (advStep c n S M).1.done = true ∧ (advStep c n S M).2.peek n (-1) = some (e + 1)) ∨ ((advStep c n S M).1.moved = false ∧ (advStep c n S M).2.peek n (-1) = some e) := by
 unfold advStep
 rw [if_neg (by rw [hd]; decide)]
 split
 ·exact .inr ⟨hm, he⟩
 split
 ·exact .inr ⟨hm, he⟩
 ·by_cases h : e = S.now
  ·subst h
   refine .inl ⟨?_, rfl, ?_⟩
   ·show (M.peek n (-1) == some S.now) = true
    rw [he]; simp
   ·show (M.accW n S.t (-1) S.now (inc64 S.now)).1.peek n (-1) = _
    rw [accW_peek (by omega), if_pos ⟨rfl, he⟩]
    congr 1; unfold inc64; omega
  ·refine .inr ⟨?_, ?_⟩
   ·show (M.peek n (-1) == some S.now) = false
    rw [he]; simpa using h
   ·show (M.accW n S.t (-1) S.now (inc64 S.now)).1.peek n (-1) = _
    rw [accW_peek (by omega), if_neg (fun x => h (by have := he.symm.trans x.2; cases this; rfl)), he]
theorem advStep_mv (hd : S.done = false) (hm : S.moved = false) (he : M.peek n (-1) = some e) (h64 : 0 ≤ e ∧ e < 18446744073709551615) (h : (advStep c n S M).1.moved = true) : (advStep c n S M).2.peek n (-1) = some (e + 1) := by
 rcases advStep_one (c := c) hd hm he h64 with h1 | h1
 ·exact h1.2.2
 ·rw [h1.1] at h; cases h
theorem advStep_nm (hd : S.done = false) (hm : S.moved = false) (he : M.peek n (-1) = some e) (h64 : 0 ≤ e ∧ e < 18446744073709551615) (h : (advStep c n S M).1.moved = false) : (advStep c n S M).2.peek n (-1) = some e := by
 rcases advStep_one (c := c) hd hm he h64 with h1 | h1
 ·rw [h1.1] at h; cases h
 ·exact h1.2
theorem advStep_nd (hd : S.done = false) (hm : S.moved = false) (he : M.peek n (-1) = some e) (h64 : 0 ≤ e ∧ e < 18446744073709551615) (h : (advStep c n S M).1.done = false) : (advStep c n S M).1.moved = false := by
 rcases advStep_one (c := c) hd hm he h64 with h1 | h1
 ·rw [h1.2.1] at h; cases h
 ·exact h1.1
end
def oneOk (hs : List (Option AdvS)) : Prop := ∀ S, some S ∈ hs → S.good ∧ (S.done = false → S.moved = false)
theorem oneOk_rep (n : Nat) : oneOk (List.replicate n none) := fun S h => by have := (List.mem_replicate.1 h).2; cases this
theorem oneOk_set {hs : List (Option AdvS)} {t : Nat} {S : AdvS} (h : oneOk hs) (hg : S.good) (hm : S.done = false → S.moved = false) : oneOk (hs.set t (some S)) := fun X hX => by
 rcases List.mem_or_eq_of_mem_set hX with h1 | h1
 ·exact h X h1
 ·cases h1; exact ⟨hg, hm⟩
theorem hs_at {α : Type} {hs : List α} {t : Nat} (h : t < hs.length) : ∃ S, hs[t]? = some S := ⟨hs[t], List.getElem?_eq_getElem h⟩
theorem one_peek {n t k : Nat} {w : Int} (hk : 0 < k) : (groundM n t k [⟨-1, w⟩]).peek n (-1) = some w := by
 show (MemM.accS _ n 0 (-1) w).1.peek n (-1) = _
 rw [accS_peek (by omega), if_pos ⟨rfl, by simp [MemM.of]; omega⟩]
theorem ground1_good {n t k : Nat} {w : Int} (hw : isW w) : (groundM n t k [⟨-1, w⟩]).good := ground_good (fun j hj => by
 have : j = 0 := by simp at hj; omega
 subst this; exact hw)

end Go.Proofs.Ytajkickofkeemaa
