/- A way through a list, all alone: plain laws. -/
import Derived.Test.YtbfafebfkdbglaaGreatFl14
import Derived.Test.YtbfafebfkdbglaaGreatLl4
namespace Go.Proofs.YtbfafebfkdbglaaGreat
open Go.RowKit
set_option linter.unusedVariables false
attribute [local irreducible] K.KW K.RW K.DW K.OW K.QR K.KC
section
variable {n nt : Nat} {M : MemM} {th i j w old : Int}
theorem accS_pk (hs : M.dev.seen.length = n * 8) (hi : 0 ≤ i ∧ i < n * 8) : (M.accS n th i w).1.peek n j = if j = i then some w else M.peek n j := by
 show (if (M.peek n i).isSome = true then M.put i w else M).peek n j = _
 rw [if_pos (show (M.peek n i).isSome = true by rw [peek_dev hi]; rfl), putD hi.1]
 unfold MemM.peek
 show (if 0 ≤ j then (if j < n * 8 then some ((M.dev.seen.set i.toNat w).getD j.toNat 0) else none) else _) = _
 by_cases hj : j = i
 ·subst hj; rw [if_pos hi.1, if_pos hi.2, if_pos rfl, getD_set_self (by omega)]
 ·rw [if_neg hj]
  by_cases h0 : 0 ≤ j
  ·rw [if_pos h0, if_pos h0]
   by_cases h1 : j < n * 8
   ·rw [if_pos h1, if_pos h1]
    congr 1
    have hne : ¬ i.toNat = j.toNat := by omega
    simp [List.getD_eq_getElem?_getD, List.getElem?_set, hne]
   ·rw [if_neg h1, if_neg h1]
  ·rw [if_neg h0, if_neg h0]
theorem accS_ok (h : M.dev.ok n nt) : (M.accS n th i w).1.dev.ok n nt := by
 show (if (M.peek n i).isSome = true then M.put i w else M).dev.ok n nt
 split
 ·by_cases h0 : 0 ≤ i
  ·rw [putD h0]; exact h.store
  ·rw [putP h0]; exact h
 ·exact h
theorem accF_pk : (M.accF n nt th i).1.peek n j = M.peek n j := by
 show (if decide _ = true then _ else M).peek n j = _
 split <;> rfl
theorem accE_pk : (M.accE nt th).1.peek n j = M.peek n j := by
 show (if decide _ = true then _ else M).peek n j = _
 split
 ·unfold MemM.peek
  show (if 0 ≤ j then (if j < n * 8 then some ((M.dev.fence th.toNat).seen.getD j.toNat 0) else none) else _) = _
  rw [DevM.fence_seen]
 ·rfl
theorem ground_snoc (n t k : Nat) (ps : List PutM) (p : PutM) : groundM n t k (ps ++ [p]) = ((groundM n t k ps).accS n 0 p.at_ p.w).1 := by unfold groundM putsT; rw [List.foldl_append]; rfl
theorem accW_pk (hs : M.dev.seen.length = n * 8) (hi : 0 ≤ i ∧ i < n * 8) : (M.accW n th i old w).1.peek n j = if j = i ∧ M.peek n i = some old then some w else M.peek n j := by
 by_cases h : M.peek n i = some old
 ·have e : (M.accW n th i old w).1.peek n j = (M.accS n th i w).1.peek n j := by
   show (if (M.peek n i == some old) = true then M.put i w else M).peek n j = (if (M.peek n i).isSome = true then M.put i w else M).peek n j
   rw [if_pos (by rw [h]; simp), if_pos (by rw [h]; rfl)]
  rw [e, accS_pk hs hi]
  by_cases hj : j = i
  ·rw [if_pos hj, if_pos ⟨hj, h⟩]
  ·rw [if_neg hj, if_neg (fun x => hj x.1)]
 ·show (if (M.peek n i == some old) = true then M.put i w else M).peek n j = _
  rw [if_neg (by simpa using h), if_neg (fun x => h x.2)]
theorem accW_ok (h : M.dev.ok n nt) : (M.accW n th i old w).1.dev.ok n nt := by
 show (if (M.peek n i == some old) = true then M.put i w else M).dev.ok n nt
 split
 ·by_cases h0 : 0 ≤ i
  ·rw [putD h0]; exact h.store
  ·rw [putP h0]; exact h
 ·exact h
end
theorem accF_ok {M : MemM} {n nt : Nat} {th i : Int} (h : M.dev.ok n nt) : (M.accF n nt th i).1.dev.ok n nt := by
 show (if decide _ = true then _ else M).dev.ok n nt
 split
 ·rename_i hd
  have hd := of_decide_eq_true hd
  exact h.mark (by omega)
 ·exact h
theorem accE_ok {M : MemM} {n nt : Nat} {th : Int} (h : M.dev.ok n nt) : (M.accE nt th).1.dev.ok n nt := by
 show (if decide _ = true then _ else M).dev.ok n nt
 split
 ·rename_i hd
  have hd := of_decide_eq_true hd
  exact h.fence (by omega)
 ·exact h
theorem fresh_ok {c : Cfg} (hc : cfgOk c) {k : Nat} : (MemM.of (DevM.fresh (List.replicate ((lns c).toNat * 8) 0) (lns c).toNat c.th.toNat) k).dev.ok (lns c).toNat c.th.toNat := by
 have hb := lay_bd hc
 unfold cfgOk at hc
 exact DevM.ok.fresh (by simp) (by omega) (by omega) (by omega) (by omega)
def ChainF (f : Int → Int) : Int → List Int → Prop
 | w, [] => toI w = -1
 | w, s :: L => toI w = s ∧ ChainF f (f s) L
theorem ChainF.ext {f g : Int → Int} : ∀ {L : List Int} {w : Int}, (∀ s ∈ L, f s = g s) → ChainF f w L → ChainF g w L
 | [], _, _, h => h
 | s :: L, w, he, h => ⟨h.1, by rw [← he s (by simp)]; exact ChainF.ext (fun x hx => he x (by simp [hx])) h.2⟩
theorem ChainF.word {f : Int → Int} {w w' : Int} : ∀ {L : List Int}, toI w = toI w' → ChainF f w L → ChainF f w' L
 | [], e, h => e.symm.trans h
 | s :: L, e, h => ⟨e.symm.trans h.1, h.2⟩
/-- a memory: what is at its words, and that it may be -/
structure MP_ (n nt : Nat) (f : Int → Option Int) (M : MemM) : Prop where
 ok : M.dev.ok n nt
 good : M.good
 pk : ∀ j, M.peek n j = f j
def upd_ (f : Int → Option Int) (i w : Int) : Int → Option Int := fun j => if j = i then some w else f j
section
variable {n nt : Nat} {f : Int → Option Int} {M : MemM} {th i w o : Int}
theorem MP_.load (h : MP_ n nt f M) : MP_ n nt f (M.accL n th i).1 := ⟨h.ok, (accL_good h.good).1, h.pk⟩
theorem MP_.flush (h : MP_ n nt f M) : MP_ n nt f (M.accF n nt th i).1 := ⟨accF_ok h.ok, accF_good h.good, fun j => accF_pk.trans (h.pk j)⟩
theorem MP_.fence (h : MP_ n nt f M) : MP_ n nt f (M.accE nt th).1 := ⟨accE_ok h.ok, accE_good h.good, fun j => accE_pk.trans (h.pk j)⟩
theorem MP_.swap (h : MP_ n nt f M) (hi : 0 ≤ i ∧ i < n * 8) (ho : f i = some o) (hw : isW w) : MP_ n nt (upd_ f i w) (M.accW n th i o w).1 ∧ (M.accW n th i o w).2.done = true := by
 refine ⟨⟨accW_ok h.ok, accW_good h.good hw, fun j => ?_⟩, ?_⟩
 ·rw [accW_pk h.ok.2.1 hi, h.pk i, h.pk j]
  unfold upd_
  by_cases hj : j = i
  ·rw [if_pos ⟨hj, ho⟩, if_pos hj]
  ·rw [if_neg (fun x => hj x.1), if_neg hj]
 ·show (M.peek n i == some o) = true
  rw [h.pk i, ho]; simp
theorem MP_.old (h : MP_ n nt f M) (ho : f i = some o) : (M.accL n th i).2.old = o := by show (M.peek n i).getD 0 = o; rw [h.pk i, ho]; rfl
theorem upd_upd (a b : Int) : upd_ (upd_ f i a) i b = upd_ f i b := by
 funext j
 unfold upd_
 by_cases h : j = i
 ·rw [if_pos h, if_pos h]
 ·rw [if_neg h, if_neg h, if_neg h]
theorem upd_same (h : f i = some o) : upd_ f i o = f := by
 funext j
 unfold upd_
 by_cases hj : j = i
 ·rw [if_pos hj, hj, h]
 ·rw [if_neg hj]
def rdIt (n nt : Nat) (S : RdS) (M : MemM) : Nat → RdS × MemM
 | 0 => (S, M)
 | k + 1 => rdStep n nt (rdIt n nt S M k).1 (rdIt n nt S M k).2
def seIt (n nt : Nat) (S : SeS) (M : MemM) : Nat → SeS × MemM
 | 0 => (S, M)
 | k + 1 => seStep n nt (seIt n nt S M k).1 (seIt n nt S M k).2
theorem soil_back {w : Int} (h : isW w) (hd : ¬ w < 9223372036854775808) : soilI (cleanI w) = w := by unfold isW at h; unfold soilI cleanI; omega
/-- a read, alone: in five steps at most the word is clean, and told -/
theorem rd_run (h : MP_ n nt f M) (hi : 0 ≤ i ∧ i < n * 8) (hw : f i = some w) (hW : isW w) :
  ∃ k, 1 ≤ k ∧ k ≤ 5 ∧ (∀ j, j < k → (rdIt n nt ⟨th, i, 0, 0, -1⟩ M j).1.done = false) ∧ (rdIt n nt ⟨th, i, 0, 0, -1⟩ M k).1.done = true ∧ rdWord (rdIt n nt ⟨th, i, 0, 0, -1⟩ M k).1 = cleanI w ∧ MP_ n nt (upd_ f i (cleanI w)) (rdIt n nt ⟨th, i, 0, 0, -1⟩ M k).2 := by
 have ho := h.old (th := th) hw
 by_cases hd : w < 9223372036854775808
 ·have e1 : rdIt n nt ⟨th, i, 0, 0, -1⟩ M 1 = (⟨th, i, 4, cleanI w, (M.accL n th i).1.clock⟩, (M.accL n th i).1) := by
   show rdStep n nt ⟨th, i, 0, 0, -1⟩ M = _
   unfold rdStep
   rw [if_neg (by show ¬ (0 : Int) = 4; decide), if_pos rfl]
   simp only [ho]
   rw [if_pos hd]
  have hc : cleanI w = w := clean_nd hW hd
  refine ⟨1, by omega, by omega, fun j hj => ?_, by rw [e1]; rfl, by rw [e1]; rfl, ?_⟩
  ·rw [show j = 0 by omega]; rfl
  ·rw [e1, hc, upd_same hw]; exact h.load
 ·have e1 : rdIt n nt ⟨th, i, 0, 0, -1⟩ M 1 = (⟨th, i, 1, cleanI w, (M.accL n th i).1.clock⟩, (M.accL n th i).1) := by
   show rdStep n nt ⟨th, i, 0, 0, -1⟩ M = _
   unfold rdStep
   rw [if_neg (by show ¬ (0 : Int) = 4; decide), if_pos rfl]
   simp only [ho]
   rw [if_neg hd]
  have h1 : MP_ n nt f (M.accL n th i).1 := h.load
  have e2 : rdIt n nt ⟨th, i, 0, 0, -1⟩ M 2 = (⟨th, i, 2, cleanI w, (M.accL n th i).1.clock⟩, ((M.accL n th i).1.accF n nt th i).1) := by
   show rdStep n nt (rdIt n nt _ M 1).1 (rdIt n nt _ M 1).2 = _
   rw [e1]; unfold rdStep lastM
   rw [if_neg (by show ¬ (1 : Int) = 4; decide), if_neg (by show ¬ (1 : Int) = 0; decide), if_neg (by show ¬ (1 : Int) = 3; decide), if_pos rfl]; rfl
  have h2 : MP_ n nt f ((M.accL n th i).1.accF n nt th i).1 := h1.flush
  have e3 : rdIt n nt ⟨th, i, 0, 0, -1⟩ M 3 = (⟨th, i, 3, cleanI w, (M.accL n th i).1.clock⟩, (((M.accL n th i).1.accF n nt th i).1.accE nt th).1) := by
   show rdStep n nt (rdIt n nt _ M 2).1 (rdIt n nt _ M 2).2 = _
   rw [e2]; unfold rdStep lastM
   rw [if_neg (by show ¬ (2 : Int) = 4; decide), if_neg (by show ¬ (2 : Int) = 0; decide), if_neg (by show ¬ (2 : Int) = 3; decide), if_neg (by show ¬ (2 : Int) = 1; decide), if_pos rfl]; rfl
  have h3 : MP_ n nt f (((M.accL n th i).1.accF n nt th i).1.accE nt th).1 := h2.fence
  generalize hM3 : (((M.accL n th i).1.accF n nt th i).1.accE nt th).1 = M3 at e3 h3
  have e4 : rdIt n nt ⟨th, i, 0, 0, -1⟩ M 4 = (⟨th, i, 0, cleanI w, (M.accL n th i).1.clock⟩, (M3.accW n th i w (cleanI w)).1) := by
   show rdStep n nt (rdIt n nt _ M 3).1 (rdIt n nt _ M 3).2 = _
   rw [e3]; unfold rdStep lastM
   rw [if_neg (by show ¬ (3 : Int) = 4; decide), if_neg (by show ¬ (3 : Int) = 0; decide), if_pos rfl, if_neg (by show ¬ (3 : Int) = 1; decide), if_neg (by show ¬ (3 : Int) = 2; decide)]
   show (_, (M3.accW n th i (soilI (cleanI w)) (cleanI w)).1) = _
   rw [soil_back hW hd]
  obtain ⟨h4, _⟩ := h3.swap (th := th) (w := cleanI w) hi hw (cleanI_l w).w
  have h5o := h4.old (th := th) (i := i) (o := cleanI w) (by unfold upd_; rw [if_pos rfl])
  have hlt : cleanI w < 9223372036854775808 := (cleanI_l w).2
  generalize hM4 : (M3.accW n th i w (cleanI w)).1 = M4 at e4 h4 h5o
  have e5 : rdIt n nt ⟨th, i, 0, 0, -1⟩ M 5 = (⟨th, i, 4, cleanI w, (M4.accL n th i).1.clock⟩, (M4.accL n th i).1) := by
   show rdStep n nt (rdIt n nt _ M 4).1 (rdIt n nt _ M 4).2 = _
   rw [e4]; unfold rdStep
   rw [if_neg (by show ¬ (0 : Int) = 4; decide), if_pos rfl]
   simp only [h5o]
   rw [if_pos hlt, (cleanI_l w).clean]
  refine ⟨5, by omega, by omega, fun j hj => ?_, by rw [e5]; rfl, by rw [e5]; rfl, by rw [e5]; exact h4.load⟩
  have hj5 : j = 0 ∨ j = 1 ∨ j = 2 ∨ j = 3 ∨ j = 4 := by omega
  rcases hj5 with rfl | rfl | rfl | rfl | rfl
  ·rfl
  ·rw [e1]; rfl
  ·rw [e2]; rfl
  ·rw [e3]; rfl
  ·rw [e4]; rfl
/-- a Set, alone: in four steps its link is put -/
theorem se_run {v : Int} (h : MP_ n nt f M) (hi : 0 ≤ i ∧ i < n * 8) (ho : f i = some o) (hv : isL v) :
  (∀ j, j < 4 → (seIt n nt ⟨th, i, 0, v, -1, o, false, 0⟩ M j).1.done = false) ∧ (seIt n nt ⟨th, i, 0, v, -1, o, false, 0⟩ M 4).1.done = true ∧ (seIt n nt ⟨th, i, 0, v, -1, o, false, 0⟩ M 4).1.put = true ∧ MP_ n nt (upd_ f i v) (seIt n nt ⟨th, i, 0, v, -1, o, false, 0⟩ M 4).2 := by
 obtain ⟨h1, hd⟩ := h.swap (th := th) (w := soilI v) hi ho (soilI_w v)
 have e1 : seIt n nt ⟨th, i, 0, v, -1, o, false, 0⟩ M 1 = (⟨th, i, 1, v, (M.accW n th i o (soilI v)).1.clock, o, true, wrM (M.accW n th i o (soilI v)).1 i⟩, (M.accW n th i o (soilI v)).1) := by
  show seStep n nt ⟨th, i, 0, v, -1, o, false, 0⟩ M = _
  unfold seStep seA
  rw [if_neg (by show ¬ (0 : Int) = 4; decide), if_pos rfl, if_pos hd]
 generalize hM1 : (M.accW n th i o (soilI v)).1 = M1 at e1 h1
 have e2 : seIt n nt ⟨th, i, 0, v, -1, o, false, 0⟩ M 2 = (⟨th, i, 2, v, M1.clock, o, true, wrM M1 i⟩, (M1.accF n nt th i).1) := by
  show seStep n nt (seIt n nt _ M 1).1 (seIt n nt _ M 1).2 = _
  rw [e1]; unfold seStep lastM
  rw [if_neg (by show ¬ (1 : Int) = 4; decide), if_neg (by show ¬ (1 : Int) = 0; decide), if_pos rfl]; rfl
 have h2 : MP_ n nt (upd_ f i (soilI v)) (M1.accF n nt th i).1 := h1.flush
 have e3 : seIt n nt ⟨th, i, 0, v, -1, o, false, 0⟩ M 3 = (⟨th, i, 3, v, M1.clock, o, true, wrM M1 i⟩, ((M1.accF n nt th i).1.accE nt th).1) := by
  show seStep n nt (seIt n nt _ M 2).1 (seIt n nt _ M 2).2 = _
  rw [e2]; unfold seStep lastM
  rw [if_neg (by show ¬ (2 : Int) = 4; decide), if_neg (by show ¬ (2 : Int) = 0; decide), if_neg (by show ¬ (2 : Int) = 1; decide), if_pos rfl]; rfl
 have h3 : MP_ n nt (upd_ f i (soilI v)) ((M1.accF n nt th i).1.accE nt th).1 := h2.fence
 generalize hM3 : ((M1.accF n nt th i).1.accE nt th).1 = M3 at e3 h3
 have e4 : seIt n nt ⟨th, i, 0, v, -1, o, false, 0⟩ M 4 = (⟨th, i, 4, v, M1.clock, o, true, wrM M1 i⟩, (M3.accW n th i (soilI v) v).1) := by
  show seStep n nt (seIt n nt _ M 3).1 (seIt n nt _ M 3).2 = _
  rw [e3]; unfold seStep lastM
  rw [if_neg (by show ¬ (3 : Int) = 4; decide), if_neg (by show ¬ (3 : Int) = 0; decide), if_neg (by show ¬ (3 : Int) = 1; decide), if_neg (by show ¬ (3 : Int) = 2; decide)]; rfl
 obtain ⟨h4, _⟩ := h3.swap (th := th) (w := v) hi (by unfold upd_; rw [if_pos rfl]) hv.w
 rw [upd_upd] at h4
 refine ⟨fun j hj => ?_, by rw [e4]; rfl, by rw [e4], by rw [e4]; exact h4⟩
 have hj5 : j = 0 ∨ j = 1 ∨ j = 2 ∨ j = 3 := by omega
 rcases hj5 with rfl | rfl | rfl | rfl
 ·rfl
 ·rw [e1]; rfl
 ·rw [e2]; rfl
 ·rw [e3]; rfl
end
section
variable {c : Cfg} {n nt : Nat} {S : SkS} {M : MemM}
theorem skIt_add (a : Nat) : ∀ b, skIt c n nt S M (a + b) = skIt c n nt (skIt c n nt S M a).1 (skIt c n nt S M a).2 b
 | 0 => rfl
 | b + 1 => by
  show skStep c n nt (skIt c n nt S M (a + b)).1 (skIt c n nt S M (a + b)).2 = _
  rw [skIt_add a b]; rfl
theorem skIt_done (h : S.done = true) : ∀ k, skIt c n nt S M k = (S, M)
 | 0 => rfl
 | k + 1 => by
  show skStep c n nt (skIt c n nt S M k).1 (skIt c n nt S M k).2 = _
  rw [skIt_done h k]; unfold skStep; rw [if_pos h]
theorem sk_rd {k : Nat} (hd : S.done = false) (hm : S.mode = 1 ∨ S.mode = 2) (hk : ∀ j, j < k → (rdIt n nt S.rd M j).1.done = false) : ∀ j, j < k → skIt c n nt S M j = (skRd S (rdIt n nt S.rd M j).1, (rdIt n nt S.rd M j).2)
 | 0, _ => rfl
 | j + 1, hj => by
  show skStep c n nt (skIt c n nt S M j).1 (skIt c n nt S M j).2 = _
  rw [sk_rd hd hm hk j (by omega)]
  have h1 := hk (j + 1) hj
  rcases hm with hm | hm
  ·refine (skS1 (S := skRd S (rdIt n nt S.rd M j).1) hd hm).trans ?_
   show (skFirst c (skRd S (rdIt n nt S.rd M j).1) (rdIt n nt S.rd M (j + 1)).1, _) = _
   unfold skFirst; rw [if_neg (by rw [h1]; decide)]; rfl
  ·refine (skS2 (S := skRd S (rdIt n nt S.rd M j).1) hd hm).trans ?_
   show (skLinked (skRd S (rdIt n nt S.rd M j).1) (rdIt n nt S.rd M (j + 1)).1, _) = _
   unfold skLinked; rw [if_neg (by rw [h1]; decide)]; rfl
theorem sk_rd1 {k : Nat} (h0 : 1 ≤ k) (hd : S.done = false) (hm : S.mode = 1) (hk : ∀ j, j < k → (rdIt n nt S.rd M j).1.done = false) : skIt c n nt S M k = (skFirst c S (rdIt n nt S.rd M k).1, (rdIt n nt S.rd M k).2) := by
 obtain ⟨k, rfl⟩ : ∃ q, k = q + 1 := ⟨k - 1, by omega⟩
 show skStep c n nt (skIt c n nt S M k).1 (skIt c n nt S M k).2 = _
 rw [sk_rd hd (.inl hm) hk k (by omega)]
 exact skS1 (S := skRd S (rdIt n nt S.rd M k).1) hd hm
theorem sk_rd2 {k : Nat} (h0 : 1 ≤ k) (hd : S.done = false) (hm : S.mode = 2) (hk : ∀ j, j < k → (rdIt n nt S.rd M j).1.done = false) : skIt c n nt S M k = (skLinked S (rdIt n nt S.rd M k).1, (rdIt n nt S.rd M k).2) := by
 obtain ⟨k, rfl⟩ : ∃ q, k = q + 1 := ⟨k - 1, by omega⟩
 show skStep c n nt (skIt c n nt S M k).1 (skIt c n nt S M k).2 = _
 rw [sk_rd hd (.inr hm) hk k (by omega)]
 exact skS2 (S := skRd S (rdIt n nt S.rd M k).1) hd hm
theorem sk_se {k : Nat} (hd : S.done = false) (hm : S.mode = 3) (hk : ∀ j, j < k → (seIt n nt S.se M j).1.done = false) : ∀ j, j < k → skIt c n nt S M j = (skSe S (seIt n nt S.se M j).1, (seIt n nt S.se M j).2)
 | 0, _ => rfl
 | j + 1, hj => by
  show skStep c n nt (skIt c n nt S M j).1 (skIt c n nt S M j).2 = _
  rw [sk_se hd hm hk j (by omega)]
  have h1 := hk (j + 1) hj
  refine (skS3 (S := skSe S (seIt n nt S.se M j).1) hd hm).trans ?_
  show (skUnl c (skSe S (seIt n nt S.se M j).1) (seIt n nt S.se M (j + 1)).1, _) = _
  unfold skUnl; rw [if_neg (by rw [h1]; decide)]; rfl
theorem sk_se4 {k : Nat} (h0 : 1 ≤ k) (hd : S.done = false) (hm : S.mode = 3) (hk : ∀ j, j < k → (seIt n nt S.se M j).1.done = false) : skIt c n nt S M k = (skUnl c S (seIt n nt S.se M k).1, (seIt n nt S.se M k).2) := by
 obtain ⟨k, rfl⟩ : ∃ q, k = q + 1 := ⟨k - 1, by omega⟩
 show skStep c n nt (skIt c n nt S M k).1 (skIt c n nt S M k).2 = _
 rw [sk_se hd hm hk k (by omega)]
 exact skS3 (S := skSe S (seIt n nt S.se M k).1) hd hm
/-- in so many steps at most it comes where this holds -/
def Rch (c : Cfg) (n nt : Nat) (S : SkS) (M : MemM) (B : Nat) (P : SkS → MemM → Prop) : Prop := ∃ k, k ≤ B ∧ P (skIt c n nt S M k).1 (skIt c n nt S M k).2
theorem Rch.bind {B B2 : Nat} {P Q : SkS → MemM → Prop} (h : Rch c n nt S M B P) (h2 : ∀ S' M', P S' M' → Rch c n nt S' M' B2 Q) : Rch c n nt S M (B + B2) Q := by
 obtain ⟨k, hk, hp⟩ := h
 obtain ⟨k2, hk2, hq⟩ := h2 _ _ hp
 exact ⟨k + k2, by omega, by rw [skIt_add]; exact hq⟩
theorem Rch.now {B : Nat} {P : SkS → MemM → Prop} (h : P S M) : Rch c n nt S M B P := ⟨0, by omega, h⟩
theorem Rch.le {B B2 : Nat} {P : SkS → MemM → Prop} (h : Rch c n nt S M B P) (hb : B ≤ B2) : Rch c n nt S M B2 P := by
 obtain ⟨k, hk, hp⟩ := h; exact ⟨k, by omega, hp⟩
end
def kptT (l : List NodeM) (x : Int) : Nat → List Int
 | 0 => []
 | i + 1 => if (l.getD i nd0).by_ = -1 ∧ (l.getD i nd0).key < x then kptT l x i ++ [(i : Int)] else kptT l x i
def plcT (c : Cfg) (l : List NodeM) (x : Int) : Nat → Int
 | 0 => 32
 | i + 1 => if (l.getD i nd0).by_ = -1 ∧ (l.getD i nd0).key < x then nextS c (i : Int) else plcT c l x i
def curT (l : List NodeM) (x : Int) : Nat → Int
 | 0 => -1
 | i + 1 => if curT l x i = -1 ∧ (l.getD i nd0).by_ = -1 ∧ x ≤ (l.getD i nd0).key then (i : Int) else curT l x i
def fndT (l : List NodeM) (x : Int) : Nat → Int
 | 0 => -1
 | i + 1 => if (l.getD i nd0).by_ = -1 ∧ (l.getD i nd0).key = x then (i : Int) else fndT l x i
def wntT (l : List NodeM) (x : Int) : Nat → List Int
 | 0 => []
 | i + 1 => if (l.getD i nd0).by_ = -1 ∨ ¬ curT l x (i + 1) = -1 then wntT l x i ++ [(i : Int)] else wntT l x i
def risesP (c : Cfg) (l : List NodeM) : Prop := (∀ i, i < l.length → -1 ≤ (l.getD i nd0).by_ ∧ (l.getD i nd0).by_ < c.th) ∧ (∀ i, i + 1 < l.length → (l.getD i nd0).key < (l.getD (i + 1) nd0).key) ∧ (l.length : Int) ≤ c.sl
section
variable {c : Cfg} {l : List NodeM} {ds : List Bool} {x : Int} {i : Nat}
theorem keys_up (h : risesP c l) : ∀ d i, i + d + 1 < l.length → (l.getD i nd0).key < (l.getD (i + d + 1) nd0).key
 | 0, i, hi => h.2.1 i hi
 | d + 1, i, hi => Int.lt_trans (keys_up h d i (by omega)) (h.2.1 (i + d + 1) hi)
theorem keys_lt (h : risesP c l) {i j : Nat} (hij : i < j) (hj : j < l.length) : (l.getD i nd0).key < (l.getD j nd0).key := by
 have := keys_up h (j - i - 1) i (by omega)
 rwa [show i + (j - i - 1) + 1 = j by omega] at this
theorem kp_plc : ∀ i, (kptT l x i = [] ∧ plcT c l x i = 32) ∨ ∃ (K : List Int) (k : Nat), kptT l x i = K ++ [(k : Int)] ∧ plcT c l x i = nextS c (k : Int) ∧ k < i ∧ ∀ s ∈ K, 0 ≤ s ∧ s < k
 | 0 => .inl ⟨rfl, rfl⟩
 | i + 1 => by
  unfold kptT plcT
  by_cases h : (l.getD i nd0).by_ = -1 ∧ (l.getD i nd0).key < x
  ·rw [if_pos h, if_pos h]
   refine .inr ⟨kptT l x i, i, rfl, rfl, by omega, fun s hs => ?_⟩
   rcases kp_plc i with ⟨h1, _⟩ | ⟨K, k, h1, _, h3, h4⟩
   ·rw [h1] at hs; cases hs
   ·rw [h1] at hs
    rcases List.mem_append.1 hs with hs | hs
    ·have := h4 s hs; omega
    ·rw [List.mem_singleton.1 hs]; omega
  ·rw [if_neg h, if_neg h]
   rcases kp_plc i with h1 | ⟨K, k, h1, h2, h3, h4⟩
   ·exact .inl h1
   ·exact .inr ⟨K, k, h1, h2, by omega, h4⟩
theorem kp_lt (i : Nat) : ∀ s ∈ kptT l x i, 0 ≤ s ∧ s < i := fun s hs => by
 rcases kp_plc (c := ⟨0, 0, 0, 0⟩) (l := l) (x := x) i with ⟨h1, _⟩ | ⟨K, k, h1, _, h3, h4⟩
 ·rw [h1] at hs; cases hs
 ·rw [h1] at hs
  rcases List.mem_append.1 hs with hs | hs
  ·have := h4 s hs; omega
  ·rw [List.mem_singleton.1 hs]; omega
theorem kp_nodup : ∀ i, (kptT l x i).Nodup
 | 0 => List.nodup_nil
 | i + 1 => by
  unfold kptT
  split
  ·rw [List.nodup_append]
   exact ⟨kp_nodup i, by simp, fun a ha b hb => by have := kp_lt (l := l) (x := x) i a ha; rw [List.mem_singleton.1 hb]; omega⟩
  ·exact kp_nodup i
/-- before the way came to an end -/
theorem pre_end (hs : ∀ j, j < i → (l.getD j nd0).by_ = -1 → (l.getD j nd0).key < x) : curT l x i = -1 ∧ fndT l x i = -1 ∧ wntT l x i = kptT l x i := by
 induction i with
 | zero => exact ⟨rfl, rfl, rfl⟩
 | succ i ih =>
  obtain ⟨h1, h2, h3⟩ := ih (fun j hj => hs j (by omega))
  have hi := hs i (by omega)
  have hc : curT l x (i + 1) = -1 := by
   unfold curT
   rw [if_neg (fun h => by have := hi h.2.1; omega)]; exact h1
  refine ⟨hc, ?_, ?_⟩
  ·unfold fndT
   rw [if_neg (fun h => by have := hi h.1; omega)]; exact h2
  ·unfold wntT kptT
   rw [hc]
   by_cases hb : (l.getD i nd0).by_ = -1
   ·rw [if_pos (.inl hb), if_pos ⟨hb, hi hb⟩, h3]
   ·rw [if_neg (fun h => h.elim hb (fun h => h rfl)), if_neg (fun h => hb h.1), h3]
def tailN (i : Nat) : Nat → List Int
 | 0 => []
 | m + 1 => (i : Int) :: tailN (i + 1) m
theorem tailN_snoc : ∀ (m i : Nat), tailN i (m + 1) = tailN i m ++ [((i + m : Nat) : Int)]
 | 0, i => rfl
 | m + 1, i => by
  show (i : Int) :: tailN (i + 1) (m + 1) = ((i : Int) :: tailN (i + 1) m) ++ _
  rw [tailN_snoc m (i + 1), show i + 1 + m = i + (m + 1) by omega]; rfl
theorem tailN_mem : ∀ (m i : Nat), ∀ s ∈ tailN i m, (i : Int) ≤ s ∧ s < i + m
 | 0, _, s, h => by cases h
 | m + 1, i, s, h => by
  rcases List.mem_cons.1 h with rfl | h
  ·omega
  ·have := tailN_mem m (i + 1) s h; omega
theorem tailN_nodup : ∀ (m i : Nat), (tailN i m).Nodup
 | 0, _ => List.nodup_nil
 | m + 1, i => List.nodup_cons.2 ⟨fun h => by have := tailN_mem m (i + 1) _ h; omega, tailN_nodup m (i + 1)⟩
/-- where the way came to an end at a slot -/
theorem post_end (hr : risesP c l) (hi : i < l.length) (hb : (l.getD i nd0).by_ = -1) (hk : x ≤ (l.getD i nd0).key) (hs : ∀ j, j < i → (l.getD j nd0).by_ = -1 → (l.getD j nd0).key < x) : ∀ m, i + 1 + m ≤ l.length →
  curT l x (i + 1 + m) = i ∧ fndT l x (i + 1 + m) = (if (l.getD i nd0).key = x then (i : Int) else -1) ∧ plcT c l x (i + 1 + m) = plcT c l x i ∧ wntT l x (i + 1 + m) = kptT l x i ++ tailN i (m + 1)
 | 0, _ => by
  obtain ⟨h1, h2, h3⟩ := pre_end hs
  have hc : curT l x (i + 1) = i := by unfold curT; rw [if_pos ⟨h1, hb, hk⟩]
  refine ⟨hc, ?_, ?_, ?_⟩
  ·show fndT l x (i + 1) = _
   unfold fndT
   by_cases hx : (l.getD i nd0).key = x
   ·rw [if_pos ⟨hb, hx⟩, if_pos hx]
   ·rw [if_neg (fun h => hx h.2), if_neg hx]; exact h2
  ·show plcT c l x (i + 1) = _
   unfold plcT; rw [if_neg (fun h => by omega)]
   cases i <;> rfl
  ·show wntT l x (i + 1) = _
   unfold wntT; rw [if_pos (.inl hb), h3]; rfl
 | m + 1, hm => by
  obtain ⟨h1, h2, h3, h4⟩ := post_end hr hi hb hk hs m (by omega)
  have hlt := keys_lt hr (i := i) (j := i + 1 + m) (by omega) (by omega)
  have hc : curT l x (i + 1 + m + 1) = i := by
   show (if curT l x (i + 1 + m) = -1 ∧ (l.getD (i + 1 + m) nd0).by_ = -1 ∧ x ≤ (l.getD (i + 1 + m) nd0).key then ((i + 1 + m : Nat) : Int) else curT l x (i + 1 + m)) = _
   rw [if_neg (fun h => by omega)]; exact h1
  refine ⟨hc, ?_, ?_, ?_⟩
  ·show (if (l.getD (i + 1 + m) nd0).by_ = -1 ∧ (l.getD (i + 1 + m) nd0).key = x then ((i + 1 + m : Nat) : Int) else fndT l x (i + 1 + m)) = _
   rw [if_neg (fun h => by omega)]; exact h2
  ·show (if (l.getD (i + 1 + m) nd0).by_ = -1 ∧ (l.getD (i + 1 + m) nd0).key < x then nextS c ((i + 1 + m : Nat) : Int) else plcT c l x (i + 1 + m)) = _
   rw [if_neg (fun h => by omega)]; exact h3
  ·show (if (l.getD (i + 1 + m) nd0).by_ = -1 ∨ ¬ curT l x (i + 1 + m + 1) = -1 then wntT l x (i + 1 + m) ++ [((i + 1 + m : Nat) : Int)] else wntT l x (i + 1 + m)) = _
   rw [if_pos (.inr (by rw [hc]; omega)), h4, tailN_snoc (m + 1) i, List.append_assoc, show i + (m + 1) = i + 1 + m by omega]
end
def SegT (f : Int → Int) : Int → List Int → Int → Prop
 | w, [], t => toI w = t
 | w, s :: K, t => toI w = s ∧ SegT f (f s) K t
theorem SegT.ext {f g : Int → Int} : ∀ {K : List Int} {w t : Int}, (∀ s ∈ K, f s = g s) → SegT f w K t → SegT g w K t
 | [], _, _, _, h => h
 | s :: K, w, t, he, h => ⟨h.1, by rw [← he s (by simp)]; exact SegT.ext (fun y hy => he y (by simp [hy])) h.2⟩
theorem SegT.snoc {f : Int → Int} {k t : Int} : ∀ {K : List Int} {w : Int}, SegT f w K k → toI (f k) = t → SegT f w (K ++ [k]) t
 | [], w, h, e => ⟨h, e⟩
 | s :: K, w, h, e => ⟨h.1, SegT.snoc h.2 e⟩
theorem SegT.last {f : Int → Int} {k t t' : Int} {g : Int → Int} : ∀ {K : List Int} {w : Int}, SegT f w (K ++ [k]) t → (∀ s ∈ K, f s = g s) → toI (g k) = t' → SegT g w (K ++ [k]) t'
 | [], w, h, _, e => ⟨h.1, e⟩
 | s :: K, w, h, he, e => ⟨h.1, by rw [← he s (by simp)]; exact SegT.last h.2 (fun y hy => he y (by simp [hy])) e⟩
theorem SegT.chain {f : Int → Int} {w' : Int} {L : List Int} : ∀ {K : List Int} {w t : Int}, SegT f w K t → toI w' = t → ChainF f w' L → ChainF f w (K ++ L)
 | [], w, t, h, e, hc => hc.word (e.trans h.symm)
 | s :: K, w, t, h, e, hc => ⟨h.1, SegT.chain h.2 e hc⟩
theorem toI_link {a b : Int} (h : -1 ≤ a ∧ a < 1000000) : toI (linkI a b) = a := by unfold toI linkI; omega
theorem byI_link {a b : Int} (h : -1 ≤ a ∧ a < 1000000) (hb : -1 ≤ b ∧ b < 127) : byI (linkI a b) = b := by unfold byI linkI; omega
theorem isL_link (a b : Int) : isL (linkI a b) := by unfold isL linkI; omega
theorem row_clean (l : List NodeM) (ds : List Bool) (i : Nat) : cleanI (rowW l ds i) = linkI (rToW l i) (rowBy l i) := by
 unfold rowW
 split
 ·exact clean_soil (isL_link _ _)
 ·exact (isL_link _ _).clean
theorem rTo_rng {l : List NodeM} (hl : l.length ≤ 1000) {i : Nat} (hi : i ≤ l.length) : -1 ≤ rToW l i ∧ rToW l i < 1000000 := by unfold rToW; split <;> omega
theorem row_toI {l : List NodeM} (ds : List Bool) (hl : l.length ≤ 1000) {i : Nat} (hi : i ≤ l.length) : toI (rowW l ds i) = rToW l i := by
 have h : toI (cleanI (rowW l ds i)) = toI (rowW l ds i) := by unfold toI cleanI; omega
 rw [← h, row_clean, toI_link (rTo_rng hl hi)]
theorem next_at {c : Cfg} (hc : cfgOk c) {j : Int} (hj : 0 ≤ j ∧ j < c.sl) : nextS c j = (sFirst c + j) * 8 + 3 ∧ keyS c j = (sFirst c + j) * 8 + 1 ∧ 7 ≤ sFirst c ∧ (sFirst c + j + 1) * 8 ≤ (((lns c).toNat : Nat) : Int) * 8 := by
 have hb := lay_bd hc
 unfold nextS keyS slotS wordS
 rw [if_pos hj, if_pos hj]
 refine ⟨by omega, by omega, by omega, by omega⟩
def nxW (c : Cfg) (f : Int → Option Int) (s : Int) : Int := (f (nextS c s)).getD 0
def hdW (f : Int → Option Int) : Int := (f 32).getD 0
/-- the words of the list that the way has not come to -/
structure RowM (c : Cfg) (l : List NodeM) (ds : List Bool) (i : Nat) (f : Int → Option Int) : Prop where
 keys : ∀ j : Nat, j < l.length → f (keyS c (j : Int)) = some (l.getD j nd0).key
 rest : ∀ j : Nat, i ≤ j → j < l.length → f (nextS c (j : Int)) = some (rowW l ds (j + 1))
structure ZI (c : Cfg) (l : List NodeM) (ds : List Bool) (x : Int) (i : Nat) (S : SkS) (f : Int → Option Int) : Prop where
 t : S.t = 0
 head : S.head = 32
 key : S.key = x
 found : S.found = false
 row : RowM c l ds i f
 seg : SegT (nxW c f) (hdW f) (kptT l x i) (if i < l.length then (i : Int) else -1)
 plc : f (plcT c l x i) = some S.word
 wl : isL S.word
 prev : S.prev = plcT c l x i
 go : ∀ j, j < i → (l.getD j nd0).by_ = -1 → (l.getD j nd0).key < x
 on : i < l.length → S.done = false ∧ S.mode = 2 ∧ S.rd = ⟨0, nextS c (i : Int), 0, 0, -1⟩ ∧ S.curr = (i : Int)
 end_ : l.length ≤ i → S.done = true ∧ S.curr = -1
structure FinS (c : Cfg) (l : List NodeM) (x : Int) (S : SkS) (f : Int → Option Int) : Prop where
 done : S.done = true
 found : S.found = decide (¬ fndT l x l.length = -1)
 prev : S.prev = plcT c l x l.length
 curr : S.curr = curT l x l.length
 chain : ChainF (nxW c f) (hdW f) (wntT l x l.length)
 nodup : (wntT l x l.length).Nodup
 rng : ∀ s ∈ wntT l x l.length, 0 ≤ s ∧ s < l.length
section
variable {c : Cfg} {l : List NodeM} {ds : List Bool} {x : Int}
theorem plc_in (hc : cfgOk c) (hr : risesP c l) {i : Nat} (hi : i ≤ l.length) : (0 ≤ plcT c l x i ∧ plcT c l x i < (((lns c).toNat : Nat) : Int) * 8) ∧ (∀ j : Nat, i ≤ j → j < l.length → ¬ plcT c l x i = nextS c (j : Int)) ∧ (∀ j : Nat, j < l.length → ¬ plcT c l x i = keyS c (j : Int)) := by
 have hb := lay_bd hc
 have hl := hr.2.2
 rcases kp_plc (c := c) (l := l) (x := x) i with ⟨_, h2⟩ | ⟨K, k, _, h2, h3, _⟩
 ·rw [h2]
  refine ⟨⟨by omega, by omega⟩, fun j h1 h2 => ?_, fun j h1 => ?_⟩
  ·have := next_at hc (j := (j : Int)) (by omega); omega
  ·have := next_at hc (j := (j : Int)) (by omega); omega
 ·rw [h2]
  have hk := next_at hc (j := (k : Int)) (by omega)
  refine ⟨⟨by omega, by omega⟩, fun j h1 h2 => ?_, fun j h1 => ?_⟩
  ·have := next_at hc (j := (j : Int)) (by omega); omega
  ·have := next_at hc (j := (j : Int)) (by omega); omega
/-- the last link of what was kept is another one -/
theorem seg_put (hc : cfgOk c) (hr : risesP c l) {i : Nat} (hi : i ≤ l.length) {f : Int → Option Int} {t t' w : Int} (h : SegT (nxW c f) (hdW f) (kptT l x i) t) (hw : toI w = t') : SegT (nxW c (upd_ f (plcT c l x i) w)) (hdW (upd_ f (plcT c l x i) w)) (kptT l x i) t' := by
 have hl := hr.2.2
 rcases kp_plc (c := c) (l := l) (x := x) i with ⟨h1, h2⟩ | ⟨K, k, h1, h2, h3, h4⟩
 ·rw [h1, h2]
  show toI (hdW (upd_ f 32 w)) = t'
  unfold hdW upd_; rw [if_pos rfl]; exact hw
 ·rw [h1] at h ⊢
  rw [h2]
  have hk := next_at hc (j := (k : Int)) (by omega)
  have e1 : hdW (upd_ f (nextS c (k : Int)) w) = hdW f := by unfold hdW upd_; rw [if_neg (by omega)]
  rw [e1]
  refine h.last (fun s hs => ?_) ?_
  ·have := h4 s hs
   have hs2 := next_at hc (j := s) (by omega)
   unfold nxW upd_; rw [if_neg (by omega)]
  ·unfold nxW upd_; rw [if_pos rfl]; exact hw
theorem seg_keep (hc : cfgOk c) (hr : risesP c l) {i j : Nat} (hij : i ≤ j) (hj : j < l.length) {f : Int → Option Int} {t w : Int} (h : SegT (nxW c f) (hdW f) (kptT l x i) t) : SegT (nxW c (upd_ f (nextS c (j : Int)) w)) (hdW (upd_ f (nextS c (j : Int)) w)) (kptT l x i) t := by
 have hl := hr.2.2
 have hk := next_at hc (j := (j : Int)) (by omega)
 have e1 : hdW (upd_ f (nextS c (j : Int)) w) = hdW f := by unfold hdW upd_; rw [if_neg (by omega)]
 rw [e1]
 refine h.ext (fun s hs => ?_)
 have := kp_lt (l := l) (x := x) i s hs
 have hs2 := next_at hc (j := s) (by omega)
 unfold nxW upd_; rw [if_neg (by omega)]
theorem RowM.upd (hc : cfgOk c) (hr : risesP c l) {i p : Nat} {f : Int → Option Int} {w : Int} {a : Int} (h : RowM c l ds i f) (hp : i ≤ p) (h1 : ∀ j : Nat, p ≤ j → j < l.length → ¬ nextS c (j : Int) = a) (h2 : ∀ j : Nat, j < l.length → ¬ keyS c (j : Int) = a) : RowM c l ds p (upd_ f a w) :=
 ⟨fun j hj => by unfold upd_; rw [if_neg (h2 j hj)]; exact h.keys j hj, fun j hj hj2 => by unfold upd_; rw [if_neg (h1 j hj hj2)]; exact h.rest j (by omega) hj2⟩
/-- behind a link that leads on -/
theorem ZI.on_ {S' : SkS} {i : Nat} {f : Int → Option Int} {w ca : Int} (hw : toI w = (if i < l.length then (i : Int) else -1)) (ht : S'.t = 0) (hh : S'.head = 32) (hk : S'.key = x) (hf : S'.found = false) (hd : S'.done = false) (row : RowM c l ds i f) (seg : SegT (nxW c f) (hdW f) (kptT l x i) (if i < l.length then (i : Int) else -1)) (plc : f (plcT c l x i) = some w) (wl : isL w) (prev : S'.prev = plcT c l x i) (go : ∀ j, j < i → (l.getD j nd0).by_ = -1 → (l.getD j nd0).key < x) : ZI c l ds x i (skOn c S' w ca) f := by
 by_cases hi : i < l.length
 ·rw [if_pos hi] at hw
  have e : skOn c S' w ca = ⟨S'.t, S'.head, S'.key, 2, S'.done, S'.found, S'.prev, w, ca, toI w, S'.link, S'.when_, ⟨S'.t, nextS c (toI w), 0, 0, -1⟩, S'.se⟩ := by unfold skOn; rw [if_neg (by omega)]
  rw [e]
  exact ⟨ht, hh, hk, hf, row, seg, plc, wl, prev, go, fun _ => ⟨hd, rfl, by show (⟨S'.t, nextS c (toI w), 0, 0, -1⟩ : RdS) = _; rw [ht, hw], hw⟩, fun h => absurd hi (by omega)⟩
 ·rw [if_neg hi] at hw
  have e : skOn c S' w ca = ⟨S'.t, S'.head, S'.key, S'.mode, true, S'.found, S'.prev, w, ca, toI w, 0, ca, S'.rd, S'.se⟩ := by unfold skOn; rw [if_pos hw]
  rw [e]
  exact ⟨ht, hh, hk, hf, row, seg, plc, wl, prev, go, fun h => absurd h hi, fun _ => ⟨rfl, hw⟩⟩
theorem rTo_if (i : Nat) (hi : i < l.length) : rToW l (i + 1) = (if i + 1 < l.length then ((i + 1 : Nat) : Int) else -1) := by
 unfold rToW
 by_cases h : i + 1 = l.length
 ·rw [if_pos h, if_neg (by omega)]
 ·rw [if_neg h, if_pos (by omega)]
theorem rest_chain (hc : cfgOk c) (hr : risesP c l) (hl3 : c.sl ≤ 30) {f : Int → Option Int} : ∀ (m i : Nat) (w : Int), i + m = l.length → toI w = (if i < l.length then (i : Int) else -1) → (∀ j : Nat, i ≤ j → j < l.length → toI (nxW c f (j : Int)) = rToW l (j + 1)) → ChainF (nxW c f) w (tailN i m)
 | 0, i, w, hi, hw, _ => by rw [if_neg (by omega)] at hw; exact hw
 | m + 1, i, w, hi, hw, hn => by
  rw [if_pos (by omega)] at hw
  refine ⟨hw, rest_chain hc hr hl3 m (i + 1) _ (by omega) ?_ (fun j h1 h2 => hn j (by omega) h2)⟩
  rw [hn i (by omega) (by omega), rTo_if i (by omega)]
/-- the way comes to a slot: it goes on behind it, or ends there -/
theorem ZI.step (hc : cfgOk c) (hth : 1 ≤ c.th ∧ c.th ≤ 6) (hs3 : c.sl ≤ 30) (hr : risesP c l) (hkk : ∀ j, j < l.length → 0 ≤ (l.getD j nd0).key ∧ (l.getD j nd0).key ≤ 4294967295) {i : Nat} {S : SkS} {M : MemM} {f : Int → Option Int} (hi : i < l.length) (Z : ZI c l ds x i S f) (hM : MP_ (lns c).toNat c.th.toNat f M) :
  Rch c (lns c).toNat c.th.toNat S M 10 (fun S' M' => ∃ f', MP_ (lns c).toNat c.th.toNat f' M' ∧ (ZI c l ds x (i + 1) S' f' ∨ FinS c l x S' f')) := by
 obtain ⟨hd, hm, hrd, hcu⟩ := Z.on hi
 have hl := hr.2.2
 have hni := next_at hc (j := (i : Int)) (by omega)
 have hlen : l.length ≤ 1000 := by omega
 have hW := rowW_w l ds (i + 1)
 obtain ⟨k, hk1, hk5, hnd, hdn, hwd, hM1⟩ := rd_run (th := 0) hM (i := nextS c (i : Int)) (by omega) (Z.row.rest i (Nat.le_refl _) hi) hW
 rw [← hrd] at hnd hdn hwd hM1
 have hskk := sk_rd2 (c := c) (n := (lns c).toNat) (nt := c.th.toNat) (M := M) hk1 hd hm hnd
 have hcl := row_clean l ds (i + 1)
 have hrb : rowBy l (i + 1) = (l.getD i nd0).by_ := by unfold rowBy; rw [if_pos (by omega)]; rfl
 have hrt := rTo_rng hlen (i := i + 1) (by omega)
 have hbi := hr.1 i hi
 rw [hrb] at hcl
 rw [hcl] at hwd hM1
 generalize hLd : linkI (rToW l (i + 1)) (l.getD i nd0).by_ = L at hwd hM1
 have hLl : isL L := by rw [← hLd]; exact isL_link _ _
 have hLt : toI L = rToW l (i + 1) := by rw [← hLd]; exact toI_link hrt
 have hLb : byI L = (l.getD i nd0).by_ := by rw [← hLd]; exact byI_link hrt (by omega)
 have hplc := plc_in (x := x) hc hr (i := i) (by omega)
 have hrow1 : RowM c l ds (i + 1) (upd_ f (nextS c (i : Int)) L) := Z.row.upd hc hr (by omega) (fun j h1 h2 => by have := next_at hc (j := (j : Int)) (by omega); omega) (fun j h1 => by have := next_at hc (j := (j : Int)) (by omega); omega)
 have hseg1 := seg_keep (x := x) (w := L) hc hr (Nat.le_refl i) hi Z.seg
 rw [if_pos hi] at hseg1
 have hnx1 : nxW c (upd_ f (nextS c (i : Int)) L) (i : Int) = L := by unfold nxW upd_; rw [if_pos rfl]; rfl
 have hplc1 : upd_ f (nextS c (i : Int)) L (plcT c l x i) = some S.word := by unfold upd_; rw [if_neg (hplc.2.1 i (Nat.le_refl _) hi)]; exact Z.plc
 generalize hRd : (rdIt (lns c).toNat c.th.toNat S.rd M k).1 = R at hskk hdn hwd
 generalize hMd : (rdIt (lns c).toNat c.th.toNat S.rd M k).2 = M1 at hskk hM1
 by_cases hb : (l.getD i nd0).by_ = -1
 ·
  have e1 : skLinked S R = ⟨S.t, S.head, S.key, 4, S.done, S.found, S.prev, S.word, S.came, S.curr, L, S.when_, R, S.se⟩ := by
   unfold skLinked; rw [if_pos hdn, hwd, if_pos (by rw [hLb]; exact hb)]
  rw [e1] at hskk
  generalize hS4 : (⟨S.t, S.head, S.key, 4, S.done, S.found, S.prev, S.word, S.came, S.curr, L, S.when_, R, S.se⟩ : SkS) = S4 at hskk
  have hki := hkk i hi
  have hold : (M1.accL (lns c).toNat S4.t (keyS c S4.curr)).2.old = (l.getD i nd0).key := by
   have : f (keyS c (i : Int)) = _ := Z.row.keys i hi
   have h4 : S4.curr = (i : Int) := by rw [← hS4]; exact hcu
   rw [h4]
   refine hM1.old ?_
   unfold upd_; rw [if_neg (by omega)]; exact this
  have e2 : skIt c (lns c).toNat c.th.toNat S M (k + 1) = (skKeyed c S4 (l.getD i nd0).key, (M1.accL (lns c).toNat S4.t (keyS c S4.curr)).1) := by
   show skStep c (lns c).toNat c.th.toNat (skIt c (lns c).toNat c.th.toNat S M k).1 (skIt c (lns c).toNat c.th.toNat S M k).2 = _
   rw [hskk, skS4 (S := S4) (by rw [← hS4]; exact hd) (by rw [← hS4]), hold, show (l.getD i nd0).key % 4294967296 = (l.getD i nd0).key by omega]
  refine ⟨k + 1, by omega, ?_⟩
  rw [e2]
  refine ⟨_, hM1.load, ?_⟩
  by_cases hx : (l.getD i nd0).key < x
  ·left
   have hx4 : (l.getD i nd0).key < S4.key := by rw [← hS4]; show _ < S.key; rw [Z.key]; exact hx
   have e3 : skKeyed c S4 (l.getD i nd0).key = skOn c (skPrev S4 (nextS c (i : Int))) L (rdWhen S4.rd) := by unfold skKeyed; rw [if_pos hx4, ← hS4]; show skOn c (skPrev _ (nextS c S.curr)) _ _ = _; rw [hcu]
   rw [e3]
   have hkp : kptT l x (i + 1) = kptT l x i ++ [(i : Int)] := if_pos ⟨hb, hx⟩
   have hpl : plcT c l x (i + 1) = nextS c (i : Int) := if_pos ⟨hb, hx⟩
   refine ZI.on_ (by rw [hLt]; exact rTo_if i hi) (by rw [← hS4]; exact Z.t) (by rw [← hS4]; exact Z.head) (by rw [← hS4]; exact Z.key) (by rw [← hS4]; exact Z.found) (by rw [← hS4]; exact hd) hrow1 ?_ (by rw [hpl]; unfold upd_; rw [if_pos rfl]) hLl (by rw [hpl]; rfl) (fun j hj hbj => ?_)
   ·rw [hkp]; exact hseg1.snoc (by rw [hnx1, hLt]; exact rTo_if i hi)
   ·by_cases hji : j = i
    ·rw [hji]; exact hx
    ·exact Z.go j (by omega) hbj
  ·right
   have hkx : S4.key = x := by rw [← hS4]; exact Z.key
   obtain ⟨p1, p2, p3, p4⟩ := post_end (c := c) hr hi hb (by omega : x ≤ (l.getD i nd0).key) Z.go (l.length - i - 1) (by omega)
   rw [show i + 1 + (l.length - i - 1) = l.length by omega] at p1 p2 p3 p4
   have e3 : (skKeyed c S4 (l.getD i nd0).key).done = true ∧ (skKeyed c S4 (l.getD i nd0).key).found = decide ((l.getD i nd0).key = x) ∧ (skKeyed c S4 (l.getD i nd0).key).prev = S.prev ∧ (skKeyed c S4 (l.getD i nd0).key).curr = S.curr := by
    unfold skKeyed
    rw [if_neg (by omega), hkx]
    by_cases he : (l.getD i nd0).key = x
    ·rw [if_pos he, decide_eq_true he, ← hS4]; exact ⟨rfl, rfl, rfl, rfl⟩
    ·rw [if_neg he, decide_eq_false he, ← hS4]; exact ⟨rfl, rfl, rfl, rfl⟩
   refine ⟨e3.1, ?_, by rw [e3.2.2.1, p3]; exact Z.prev, by rw [e3.2.2.2, p1]; exact hcu, ?_, ?_, ?_⟩
   ·rw [e3.2.1, p2]
    by_cases he : (l.getD i nd0).key = x
    ·rw [if_pos he, decide_eq_true he]; exact (decide_eq_true (by omega)).symm
    ·rw [if_neg he, decide_eq_false he]; simp
   ·rw [p4, show l.length - i - 1 + 1 = l.length - i by omega]
    refine hseg1.chain (w' := linkI (i : Int) (-1)) (toI_link (by omega)) (rest_chain hc hr hs3 (l.length - i) i _ (by omega) (by rw [toI_link (by omega), if_pos hi]) (fun j h1 h2 => ?_))
    by_cases hji : j = i
    ·rw [hji, hnx1]; exact hLt
    ·have := hrow1.rest j (by omega) h2
     show toI ((upd_ f (nextS c (i : Int)) L (nextS c (j : Int))).getD 0) = _
     rw [this]; exact row_toI ds hlen (by omega)
   ·rw [p4, List.nodup_append]
    exact ⟨kp_nodup i, tailN_nodup _ _, fun a ha b hb' => by have := kp_lt (l := l) (x := x) i a ha; have := tailN_mem _ _ b hb'; omega⟩
   ·rw [p4]
    intro s hs
    rcases List.mem_append.1 hs with hs | hs
    ·have := kp_lt (l := l) (x := x) i s hs; omega
    ·have := tailN_mem _ _ s hs; omega
 ·
  have e1 : skLinked S R = ⟨S.t, S.head, S.key, 3, S.done, S.found, S.prev, S.word, S.came, S.curr, L, S.when_, R, ⟨S.t, S.prev, 0, cleanI (linkI (toI L) (-1)), -1, cleanI S.word, false, 0⟩⟩ := by
   unfold skLinked; rw [if_pos hdn, hwd, if_neg (by rw [hLb]; exact hb)]
  have hV : linkI (toI L) (-1) = linkI (rToW l (i + 1)) (-1) := by rw [hLt]
  have hVl : isL (linkI (rToW l (i + 1)) (-1)) := isL_link _ _
  rw [hV, hVl.clean, Z.wl.clean, Z.t, Z.prev] at e1
  rw [e1] at hskk
  generalize hS3 : (⟨0, S.head, S.key, 3, S.done, S.found, plcT c l x i, S.word, S.came, S.curr, L, S.when_, R, ⟨0, plcT c l x i, 0, linkI (rToW l (i + 1)) (-1), -1, S.word, false, 0⟩⟩ : SkS) = S3 at hskk
  obtain ⟨q1, q2, q3, q4⟩ := se_run (th := 0) hM1 hplc.1 hplc1 hVl
  have hse : S3.se = ⟨0, plcT c l x i, 0, linkI (rToW l (i + 1)) (-1), -1, S.word, false, 0⟩ := by rw [← hS3]
  rw [← hse] at q1 q2 q3 q4
  have e2 := sk_se4 (c := c) (n := (lns c).toNat) (nt := c.th.toNat) (S := S3) (M := M1) (k := 4) (by omega) (by rw [← hS3]; exact hd) (by rw [← hS3]) q1
  have e3 : skIt c (lns c).toNat c.th.toNat S M (k + 4) = (skUnl c S3 (seIt (lns c).toNat c.th.toNat S3.se M1 4).1, (seIt (lns c).toNat c.th.toNat S3.se M1 4).2) := by
   rw [skIt_add, hskk]; exact e2
  refine ⟨k + 4, by omega, ?_⟩
  rw [e3]
  have e4 : skUnl c S3 (seIt (lns c).toNat c.th.toNat S3.se M1 4).1 = skOn c (skSe S3 (seIt (lns c).toNat c.th.toNat S3.se M1 4).1) (linkI (rToW l (i + 1)) (-1)) (seIt (lns c).toNat c.th.toNat S3.se M1 4).1.when_ := by
   unfold skUnl; rw [if_pos q2, if_pos q3, show S3.link = L by rw [← hS3], hV]
  refine ⟨_, q4, .inl ?_⟩
  show ZI c l ds x (i + 1) (skUnl c S3 _) _
  rw [e4]
  have hkp : kptT l x (i + 1) = kptT l x i := if_neg (fun h => hb h.1)
  have hpl : plcT c l x (i + 1) = plcT c l x i := if_neg (fun h => hb h.1)
  refine ZI.on_ (by rw [toI_link hrt]; exact rTo_if i hi) (by rw [← hS3]; rfl) (by rw [← hS3]; exact Z.head) (by rw [← hS3]; exact Z.key) (by rw [← hS3]; exact Z.found) (by rw [← hS3]; exact hd) ?_ ?_ (by rw [hpl]; unfold upd_; rw [if_pos rfl]) hVl (by rw [hpl, ← hS3]; rfl) (fun j hj hbj => ?_)
  ·exact hrow1.upd hc hr (Nat.le_refl _) (fun j h1 h2 h3 => hplc.2.1 j (by omega) h2 h3.symm) (fun j h1 h3 => hplc.2.2 j h1 h3.symm)
  ·rw [hkp]; exact seg_put hc hr (by omega) hseg1 (by rw [toI_link hrt]; exact rTo_if i hi)
  ·by_cases hji : j = i
   ·rw [hji] at hbj; exact absurd hbj hb
   ·exact Z.go j (by omega) hbj
theorem ZI.fin {S : SkS} {f : Int → Option Int} (Z : ZI c l ds x l.length S f) : FinS c l x S f := by
 obtain ⟨h1, h2⟩ := Z.end_ (Nat.le_refl _)
 obtain ⟨p1, p2, p3⟩ := pre_end Z.go
 have hs := Z.seg
 rw [if_neg (by omega)] at hs
 refine ⟨h1, by rw [Z.found, p2]; simp, Z.prev, by rw [p1, h2], ?_, by rw [p3]; exact kp_nodup _, by rw [p3]; intro s hs; have := kp_lt (l := l) (x := x) _ s hs; omega⟩
 rw [p3, ← List.append_nil (kptT l x l.length)]
 exact hs.chain (w' := 0) rfl rfl
theorem ZI.run (hc : cfgOk c) (hth : 1 ≤ c.th ∧ c.th ≤ 6) (hs3 : c.sl ≤ 30) (hr : risesP c l) (hkk : ∀ j, j < l.length → 0 ≤ (l.getD j nd0).key ∧ (l.getD j nd0).key ≤ 4294967295) : ∀ (d i : Nat) (S : SkS) (M : MemM) (f : Int → Option Int), i + d = l.length → ZI c l ds x i S f → MP_ (lns c).toNat c.th.toNat f M →
  Rch c (lns c).toNat c.th.toNat S M (10 * d) (fun S' M' => ∃ f', MP_ (lns c).toNat c.th.toNat f' M' ∧ FinS c l x S' f')
 | 0, i, S, M, f, hi, Z, hM => by
  obtain rfl : i = l.length := by omega
  exact Rch.now ⟨f, hM, Z.fin⟩
 | d + 1, i, S, M, f, hi, Z, hM => by
  have h := (Z.step hc hth hs3 hr hkk (by omega) hM).bind (B2 := 10 * d) (Q := fun S' M' => ∃ f', MP_ (lns c).toNat c.th.toNat f' M' ∧ FinS c l x S' f') (fun S' M' ⟨f', hM', h⟩ => by
   rcases h with h | h
   ·exact ZI.run hc hth hs3 hr hkk d (i + 1) S' M' f' (by omega) h hM'
   ·exact Rch.now ⟨f', hM', h⟩)
  exact h.le (by omega)
theorem seek_alone (hc : cfgOk c) (hth : 1 ≤ c.th ∧ c.th ≤ 6) (hs3 : c.sl ≤ 30) (hr : risesP c l) (hkk : ∀ j, j < l.length → 0 ≤ (l.getD j nd0).key ∧ (l.getD j nd0).key ≤ 4294967295) {M : MemM} {f : Int → Option Int} (hM : MP_ (lns c).toNat c.th.toNat f M) (row : RowM c l ds 0 f) (h0 : f 32 = some (rowW l ds 0)) :
  ∃ f', MP_ (lns c).toNat c.th.toNat f' (skIt c (lns c).toNat c.th.toNat ⟨0, 32, x, 1, false, false, 32, 0, 0, 0, 0, 0, ⟨0, 32, 0, 0, -1⟩, ⟨0, 0, 0, 0, -1, 0, false, 0⟩⟩ M (20 * l.length + 20)).2 ∧ FinS c l x (skIt c (lns c).toNat c.th.toNat ⟨0, 32, x, 1, false, false, 32, 0, 0, 0, 0, 0, ⟨0, 32, 0, 0, -1⟩, ⟨0, 0, 0, 0, -1, 0, false, 0⟩⟩ M (20 * l.length + 20)).1 f' := by
 have hb := lay_bd hc
 have hl := hr.2.2
 have hlen : l.length ≤ 1000 := by omega
 have hin : (0 : Int) ≤ 32 ∧ (32 : Int) < (((lns c).toNat : Nat) : Int) * 8 := by omega
 obtain ⟨k, hk1, hk5, hnd, hdn, hwd, hM1⟩ := rd_run (th := 0) hM hin h0 (rowW_w _ _ _)
 have hsk := sk_rd1 (c := c) (n := (lns c).toNat) (nt := c.th.toNat) (S := ⟨0, 32, x, 1, false, false, 32, 0, 0, 0, 0, 0, ⟨0, 32, 0, 0, -1⟩, ⟨0, 0, 0, 0, -1, 0, false, 0⟩⟩) (M := M) hk1 rfl rfl hnd
 have hcl := row_clean l ds 0
 have hrb : rowBy l 0 = -1 := rfl
 have hrt := rTo_rng hlen (i := 0) (by omega)
 rw [hrb] at hcl
 rw [hcl] at hwd hM1
 have hLl : isL (linkI (rToW l 0) (-1)) := isL_link _ _
 have hLt : toI (linkI (rToW l 0) (-1)) = (if 0 < l.length then ((0 : Nat) : Int) else -1) := by
  rw [toI_link hrt]; unfold rToW
  by_cases h : 0 = l.length
  ·rw [if_pos h, if_neg (by omega)]
  ·rw [if_neg h, if_pos (by omega)]
 have first : Rch c (lns c).toNat c.th.toNat ⟨0, 32, x, 1, false, false, 32, 0, 0, 0, 0, 0, ⟨0, 32, 0, 0, -1⟩, ⟨0, 0, 0, 0, -1, 0, false, 0⟩⟩ M 5 (fun S' M' => ∃ f', MP_ (lns c).toNat c.th.toNat f' M' ∧ ZI c l ds x 0 S' f') := by
  refine ⟨k, hk5, ?_⟩
  rw [hsk]
  refine ⟨_, hM1, ?_⟩
  show ZI c l ds x 0 (skFirst c ⟨0, 32, x, 1, false, false, 32, 0, 0, 0, 0, 0, ⟨0, 32, 0, 0, -1⟩, ⟨0, 0, 0, 0, -1, 0, false, 0⟩⟩ (rdIt (lns c).toNat c.th.toNat ⟨0, 32, 0, 0, -1⟩ M k).1) _
  have e : skFirst c ⟨0, 32, x, 1, false, false, 32, 0, 0, 0, 0, 0, ⟨0, 32, 0, 0, -1⟩, ⟨0, 0, 0, 0, -1, 0, false, 0⟩⟩ (rdIt (lns c).toNat c.th.toNat ⟨0, 32, 0, 0, -1⟩ M k).1 = skOn c (skRd ⟨0, 32, x, 1, false, false, 32, 0, 0, 0, 0, 0, ⟨0, 32, 0, 0, -1⟩, ⟨0, 0, 0, 0, -1, 0, false, 0⟩⟩ (rdIt (lns c).toNat c.th.toNat ⟨0, 32, 0, 0, -1⟩ M k).1) (linkI (rToW l 0) (-1)) (rdWhen (rdIt (lns c).toNat c.th.toNat ⟨0, 32, 0, 0, -1⟩ M k).1) := by
   unfold skFirst; rw [if_pos hdn, hwd, if_pos (byI_link hrt (by omega))]
  rw [e]
  refine ZI.on_ hLt rfl rfl rfl rfl rfl (row.upd hc hr (Nat.le_refl _) (fun j h1 h2 => by have := next_at hc (j := (j : Int)) (by omega); omega) (fun j h1 => by have := next_at hc (j := (j : Int)) (by omega); omega)) ?_ (by show upd_ f 32 _ 32 = _; unfold upd_; rw [if_pos rfl]) hLl rfl (fun j hj => absurd hj (by omega))
  show toI (hdW (upd_ f 32 _)) = _
  unfold hdW upd_; rw [if_pos rfl]; exact hLt
 obtain ⟨q, hq, f', hM', hF⟩ := first.bind (B2 := 10 * l.length) (Q := fun S' M' => ∃ f', MP_ (lns c).toNat c.th.toNat f' M' ∧ FinS c l x S' f') (fun S' M' ⟨f', hM', Z⟩ => ZI.run hc hth hs3 hr hkk l.length 0 S' M' f' (by omega) Z hM')
 refine ⟨f', ?_⟩
 rw [show 20 * l.length + 20 = q + (20 * l.length + 20 - q) by omega, skIt_add, skIt_done hF.done]
 exact ⟨hM', hF⟩
end
end Go.Proofs.YtbfafebfkdbglaaGreat
