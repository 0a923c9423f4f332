/- Grounds: words that are words; what is done between steps. -/
import Derived.Test.YtbfafebfkdbglaaGreatFl7
import Derived.Test.YtbfafebfkdbglaaGreatFbi
import Derived.Test.YtbfafebfkdbglaaGreatKn
namespace Go.Proofs.YtbfafebfkdbglaaGreat
open Go.RowKit
set_option linter.unusedVariables false
attribute [local irreducible] K.KW K.RW K.DW K.OW K.QR K.KC
/-- all words are words -/
def MemM.good (M : MemM) : Prop := (∀ x ∈ M.pass, isW x) ∧ (∀ x ∈ M.dev.seen, isW x) ∧ (∀ x ∈ M.dev.kept, isW x)
theorem getD_W {l : List Int} {k : Nat} (h : ∀ x ∈ l, isW x) : isW (l.getD k 0) := by
 by_cases hk : k < l.length
 ·have : l.getD k 0 ∈ l := by simp [hk]
  exact h _ this
 ·have : l.getD k 0 = 0 := by rw [List.getD_eq_getElem?_getD, List.getElem?_eq_none (by omega)]; rfl
  rw [this]; unfold isW; omega
theorem peek_W {M : MemM} {n : Nat} {i y : Int} (h : M.good) (e : M.peek n i = some y) : isW y := by
 unfold MemM.peek at e
 split at e
 ·split at e
  ·cases e; exact getD_W h.2.1
  ·cases e
 ·split at e
  ·cases e; exact getD_W h.1
  ·cases e
theorem peek0_W {M : MemM} {n : Nat} {i : Int} (h : M.good) : isW ((M.peek n i).getD 0) := by
 cases e : M.peek n i with
 | none => show isW 0; unfold isW; omega
 | some y => exact peek_W h e
theorem set_W {l : List Int} {k : Nat} {w : Int} (h : ∀ x ∈ l, isW x) (hw : isW w) : ∀ x ∈ l.set k w, isW x := fun x hx => by
 rcases List.mem_or_eq_of_mem_set hx with h1 | h1
 ·exact h x h1
 ·rw [h1]; exact hw
theorem put_good {M : MemM} {i w : Int} (h : M.good) (hw : isW w) : (M.put i w).good := by
 unfold MemM.put
 split
 ·exact ⟨h.1, set_W h.2.1 hw, h.2.2⟩
 ·exact ⟨set_W h.1 hw, h.2⟩
theorem accL_good {M : MemM} {n : Nat} {th i : Int} (h : M.good) : (M.accL n th i).1.good ∧ isW (M.accL n th i).2.old := ⟨h, peek0_W h⟩
theorem accS_good {M : MemM} {n : Nat} {th i w : Int} (h : M.good) (hw : isW w) : (M.accS n th i w).1.good := by
 show MemM.good (MemM.count (if (M.peek n i).isSome then M.put i w else M) _ _)
 split
 ·exact put_good h hw
 ·exact h
theorem accW_good {M : MemM} {n : Nat} {th i old w : Int} (h : M.good) (hw : isW w) : (M.accW n th i old w).1.good := by
 show MemM.good (MemM.count (if (M.peek n i == some old) = true then M.put i w else M) _ _)
 split
 ·exact put_good h hw
 ·exact h
theorem rep_W {k : Nat} : ∀ x ∈ List.replicate k (0 : Int), isW x := fun x hx => by rw [(List.mem_replicate.1 hx).2]; unfold isW; omega
theorem puts_good {n : Nat} : ∀ {ps : List PutM} {M : MemM}, M.good → (∀ j, j < ps.length → isW (ps.getD j pu0).w) → (putsT n M ps).good
 | [], M, h, _ => h
 | p :: ps, M, h, hp => puts_good (ps := ps) (accS_good h (hp 0 (by simp))) (fun j hj => hp (j + 1) (by simpa using hj))
theorem ground_good {n t k : Nat} {ps : List PutM} (hp : ∀ j, j < ps.length → isW (ps.getD j pu0).w) : (groundM n t k ps).good := puts_good ⟨rep_W, rep_W, rep_W⟩ hp
theorem ann_int {c : Cfg} (hc : cfgOk c) (t : Int) (h : isInt t) : isInt (annS c t) := by
 have := lay_bd hc
 unfold cfgOk at hc
 unfold annS; split <;> omega
theorem aft_int {c : Cfg} (hc : cfgOk c) (t : Int) : isInt (aftS c t) := by
 have := lay_bd hc
 unfold cfgOk at hc
 unfold aftS; split <;> omega
theorem mSwap2_ok (w0 : World) (p q n t : Nat) (M : MemM) (l : K.Cs) (x : MemAt l p q n t M) (th i : Int) (hi : isInt i) (old wo : Int) :
  K.GC Tryz.prog w0 80 #[.pointer (some ⟨p, 0, none⟩), .int .i64 th, .int .i64 i, .int .u64 old, .int .u64 wo] [l] (fun v post => ∃ l', post = [l'] ∧ MemAt l' p q n t (M.accW n th i old wo).1 ∧ ((v = .bool true ∧ (M.accW n th i old wo).2.done = true) ∨ (v = .bool false ∧ (M.accW n th i old wo).2.done = false))) := by
 refine (mSwap_ok w0 p q n t M l x th i hi old wo).mono ?_
 rintro v post ⟨l', rfl, rfl, hx⟩
 refine ⟨l', rfl, hx, ?_⟩
 cases h : (M.accW n th i old wo).2.done
 ·exact .inr ⟨rfl, rfl⟩
 ·exact .inl ⟨rfl, rfl⟩
theorem isW0 : isW 0 := by unfold isW; omega
theorem layS_ok (w0 : World) (c : Cfg) (pa : Option Addr) (cp : Nat) (ps : List PutM) (hg : ∀ j, j < ps.length → isInt (ps.getD j pu0).at_) (hs : fewC c ∧ ps.length ≤ 100) (gp : K.Cs) (xp : ∀ w, K.Sat w0 [gp] w → K.RowE w pa ps.length 2 (fun i => cPut (ps.getD i pu0))) :
  K.GC Tryz.prog w0 13 #[.agg #[.int .i64 c.th, .int .i64 c.sl, .int .i64 c.lo, .int .i64 c.bu, .slice pa ps.length cp]] [gp] (fun v post => ∃ b p q r u n k gl l m, v = .tuple #[.pointer (some ⟨b, 0, none⟩), .pointer (some ⟨p, 0, none⟩), .pointer (some ⟨r, 0, none⟩), .bool true] ∧ post = [gp, gl, l, m] ∧ gl = layPt b c ∧ MemAt l p q n c.th.toNat (groundM n c.th.toNat k ps) ∧ RMemAt m r u n c.th.toNat (groundM n c.th.toNat k ps) ∧ n = (lns c).toNat ∧ k = (2 + c.th + c.sl).toNat ∧ fewC c ∧ ps.length ≤ 100) := by
 refine (lay_ok w0 c pa cp ps hg gp xp).mono ?_
 rintro v post (h | ⟨_, _, h⟩)
 ·exact h
 ·exact absurd hs h
def DevM.words (D : DevM) : Prop := (∀ x ∈ D.seen, isW x) ∧ (∀ x ∈ D.kept, isW x)
theorem back_words {D : DevM} {k : Nat} (h : D.words) : (D.back k).words := ⟨h.1, fun x hx => by
 unfold DevM.back copyL at hx
 rcases List.mem_append.1 hx with hx | hx
 ·rcases List.mem_append.1 hx with hx | hx
  ·exact h.2 x ((List.take_sublist _ _).subset hx)
  ·exact h.1 x ((List.drop_sublist _ _).subset ((List.take_sublist _ _).subset hx))
 ·exact h.2 x ((List.drop_sublist _ _).subset hx)⟩
theorem backs_words : ∀ (l : List Int) (D : DevM), D.words → (l.foldl (fun D x => D.back x.toNat) D).words
 | [], _, h => h
 | x :: l, D, h => backs_words l _ (back_words h)
theorem fence_words {D : DevM} {k : Nat} (h : D.words) : (D.fence k).words := backs_words _ (D.clear k) h
end Go.Proofs.YtbfafebfkdbglaaGreat
