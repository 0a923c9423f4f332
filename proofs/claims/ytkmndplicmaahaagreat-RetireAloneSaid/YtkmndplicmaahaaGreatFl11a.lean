/- Layer 11: a slot that is reserved, stamped and given back, all alone: plain laws; the free list. -/
import Derived.Test.YtkmndplicmaahaaGreatFre3
import Derived.Test.YtkmndplicmaahaaGreatLl4
import Derived.Test.YtkmndplicmaahaaGreatKn
namespace Go.Proofs.YtkmndplicmaahaaGreat
open Go.RowKit
set_option linter.unusedVariables false
attribute [local irreducible] K.KW K.RW K.DW K.OW K.QR K.KC
section
variable {n nt : Nat} {M : MemM} {th i j w old : Int}
theorem accS_pk (hs : M.dev.seen.length = n * 8) (hi : 0 ≤ i ∧ i < n * 8) : (M.accS n th i w).1.peek n j = if j = i then some w else M.peek n j := by
 show (if (M.peek n i).isSome = true then M.put i w else M).peek n j = _
 rw [if_pos (show (M.peek n i).isSome = true by rw [peek_dev hi]; rfl), putD hi.1]
 unfold MemM.peek
 show (if 0 ≤ j then (if j < n * 8 then some ((M.dev.seen.set i.toNat w).getD j.toNat 0) else none) else _) = _
 by_cases hj : j = i
 ·subst hj; rw [if_pos hi.1, if_pos hi.2, if_pos rfl, getD_set_self (by omega)]
 ·rw [if_neg hj]
  by_cases h0 : 0 ≤ j
  ·rw [if_pos h0, if_pos h0]
   by_cases h1 : j < n * 8
   ·rw [if_pos h1, if_pos h1]
    congr 1
    have hne : ¬ i.toNat = j.toNat := by omega
    simp [List.getD_eq_getElem?_getD, List.getElem?_set, hne]
   ·rw [if_neg h1, if_neg h1]
  ·rw [if_neg h0, if_neg h0]
theorem accS_ok (h : M.dev.ok n nt) : (M.accS n th i w).1.dev.ok n nt := by
 show (if (M.peek n i).isSome = true then M.put i w else M).dev.ok n nt
 split
 ·by_cases h0 : 0 ≤ i
  ·rw [putD h0]; exact h.store
  ·rw [putP h0]; exact h
 ·exact h
theorem accF_pk : (M.accF n nt th i).1.peek n j = M.peek n j := by
 show (if decide _ = true then _ else M).peek n j = _
 split <;> rfl
theorem accE_pk : (M.accE nt th).1.peek n j = M.peek n j := by
 show (if decide _ = true then _ else M).peek n j = _
 split
 ·unfold MemM.peek
  show (if 0 ≤ j then (if j < n * 8 then some ((M.dev.fence th.toNat).seen.getD j.toNat 0) else none) else _) = _
  rw [DevM.fence_seen]
 ·rfl
theorem ground_snoc (n t k : Nat) (ps : List PutM) (p : PutM) : groundM n t k (ps ++ [p]) = ((groundM n t k ps).accS n 0 p.at_ p.w).1 := by unfold groundM putsT; rw [List.foldl_append]; rfl
theorem put_peekN (hi : i < 0) (hl : -1 - i < M.pass.length) : (M.put i w).peek n j = if j = i then some w else M.peek n j := by
 rw [putP (by omega)]
 by_cases h : j = i
 ·subst h
  rw [if_pos rfl]
  have hl2 : (-1 - j).toNat < M.pass.length := by omega
  rw [peek_pass (by simp; omega)]; simp [hl2]
 ·rw [if_neg h]
  unfold MemM.peek
  by_cases hj : 0 ≤ j
  ·rw [if_pos hj, if_pos hj]
  ·rw [if_neg hj, if_neg hj]
   have hne : ¬ (-1 - i).toNat = (-1 - j).toNat := by omega
   simp [List.getD_eq_getElem?_getD, List.getElem?_set, hne]
theorem accS_peek (hi : i < 0) : (M.accS n th i w).1.peek n j = if j = i ∧ -1 - i < M.pass.length then some w else M.peek n j := by
 show (MemM.count (if (M.peek n i).isSome then M.put i w else M) _ _).peek n j = _
 by_cases hl : -1 - i < M.pass.length
 ·have hs : (M.peek n i).isSome = true := by rw [peek_pass ⟨hi, hl⟩]; rfl
  rw [if_pos hs]
  show (M.put i w).peek n j = _
  rw [put_peekN hi hl]
  by_cases h : j = i
  ·rw [if_pos h, if_pos ⟨h, hl⟩]
  ·rw [if_neg h, if_neg (fun x => h x.1)]
 ·have hs : ¬ (M.peek n i).isSome = true := by rw [peek_nopass hi (by omega)]; simp
  rw [if_neg hs, if_neg (fun x => hl x.2)]; rfl
theorem accW_peek (hi : i < 0) : (M.accW n th i old w).1.peek n j = if j = i ∧ M.peek n i = some old then some w else M.peek n j := by
 show (MemM.count (if (M.peek n i == some old) = true then M.put i w else M) _ _).peek n j = _
 by_cases h : M.peek n i = some old
 ·rw [if_pos (by simpa using h)]
  show (M.put i w).peek n j = _
  have hl : -1 - i < M.pass.length := by
   rcases peek_some h with h1 | h1
   ·omega
   ·exact h1.2
  rw [put_peekN hi hl]
  by_cases hj : j = i
  ·rw [if_pos hj, if_pos ⟨hj, h⟩]
  ·rw [if_neg hj, if_neg (fun x => hj x.1)]
 ·rw [if_neg (by simpa using h), if_neg (fun x => h x.2)]; rfl
end
/-- the places of a log are words of the device, each its own -/
theorem log_at {c : Cfg} (hc : cfgOk c) {t k : Int} (ht : 0 ≤ t ∧ t < c.th) (hk : 0 ≤ k ∧ k < c.lo) : logS c t k = (lFirst c + lsz c * t) * 8 + k ∧ 0 ≤ logS c t k ∧ logS c t k < (((lns c).toNat : Nat) : Int) * 8 := by
 have hb := lay_bd hc
 have h1 : logS c t k = (lFirst c + lsz c * t) * 8 + k := by unfold logS wordS; rw [if_pos hk, if_pos ht]
 have h2 : 0 ≤ lsz c * t := Int.mul_nonneg (by omega) (by omega)
 have h3 : lsz c * (t + 1) ≤ lsz c * c.th := Int.mul_le_mul_of_nonneg_left (by omega) (by omega)
 have h4 : lsz c * c.th = tl c := by unfold tl; exact Int.mul_comm _ _
 have h5 : lsz c * (t + 1) = lsz c * t + lsz c := by rw [Int.mul_add, Int.mul_one]
 have h6 : lsz c = (c.lo + 7) / 8 := rfl
 unfold cfgOk at hc
 refine ⟨h1, by omega, by omega⟩
theorem fresh_ok {c : Cfg} (hc : cfgOk c) {k : Nat} : (MemM.of (DevM.fresh (List.replicate ((lns c).toNat * 8) 0) (lns c).toNat c.th.toNat) k).dev.ok (lns c).toNat c.th.toNat := by
 have hb := lay_bd hc
 unfold cfgOk at hc
 exact DevM.ok.fresh (by simp) (by omega) (by omega) (by omega) (by omega)
theorem nodup_le : ∀ (n : Nat) (l : List Int), l.Nodup → (∀ x ∈ l, 0 ≤ x ∧ x < n) → l.length ≤ n
 | 0, [], _, _ => Nat.le_refl 0
 | 0, x :: l, _, h => by have := h x (by simp); omega
 | n + 1, l, hn, h => by
  by_cases hm : (n : Int) ∈ l
  ·have h1 := List.length_erase_of_mem hm
   have h2 := nodup_le n (l.erase (n : Int)) (hn.erase _) (fun x hx => by
    have hx2 := (List.Nodup.mem_erase_iff hn).1 hx
    have := h x hx2.2
    have := hx2.1
    omega)
   omega
  ·have := nodup_le n l hn (fun x hx => by
    have := h x hx
    have : x ≠ (n : Int) := fun e => hm (e ▸ hx)
    omega)
   omega
/-- the free list, gone through -/
def listC (c : Cfg) (n : Nat) (M : MemM) : Nat → List Int → Int → List Int × Bool
 | 0, o, _ => (o, false)
 | k + 1, o, w => if toI w = -1 then (o, true) else if toI w ≥ c.sl ∨ toI w ∈ o then (o, false) else listC c n M k (o ++ [toI w]) ((M.peek n (aftS c (toI w))).getD 0)
def listG (c : Cfg) (n : Nat) (M : MemM) : List Int × Bool := listC c n M (c.sl.toNat + 2) [] ((M.peek n (-2)).getD 0)
section
variable {c : Cfg} {n : Nat} {M : MemM} {m : Nat} {o : List Int} {w : Int}
theorem listC_end (h : 0 < m) (e : toI w = -1) : listC c n M m o w = (o, true) := by
 cases m with
 | zero => omega
 | succ m => unfold listC; rw [if_pos e]
theorem listC_bad (h : 0 < m) (e : ¬ toI w = -1) (e2 : toI w ≥ c.sl ∨ toI w ∈ o) : listC c n M m o w = (o, false) := by
 cases m with
 | zero => omega
 | succ m => unfold listC; rw [if_neg e, if_pos e2]
theorem listC_on {m' : Nat} (h : m = m' + 1) (e : ¬ toI w = -1) (e1 : ¬ toI w ≥ c.sl) (e2 : ¬ toI w ∈ o) : listC c n M m o w = listC c n M m' (o ++ [toI w]) ((M.peek n (aftS c (toI w))).getD 0) := by
 subst h
 rw [listC, if_neg e, if_neg (fun h => h.elim e1 e2)]
end
theorem toI_ge (w : Int) : -1 ≤ toI w := by unfold toI; omega
theorem nodup_snoc {o : List Int} {x : Int} (h : o.Nodup) (hx : ¬ x ∈ o) : (o ++ [x]).Nodup := by
 rw [List.nodup_append]
 exact ⟨h, by simp, fun a ha b hb e => hx (by rw [List.mem_singleton.1 hb] at e; exact e ▸ ha)⟩
theorem in_snoc {o : List Int} {x s : Int} (h : ∀ y ∈ o, 0 ≤ y ∧ y < s) (hx : 0 ≤ x ∧ x < s) : ∀ y ∈ o ++ [x], 0 ≤ y ∧ y < s := fun y hy => by
 rcases List.mem_append.1 hy with hy | hy
 ·exact h y hy
 ·rw [List.mem_singleton.1 hy]; exact hx
theorem not_mem_snoc {xs : List Int} {x : Int} {k : Nat} (h : ∀ q, q < k → ¬ xs.getD q 0 = x) (hk : xs.length ≤ k) : ¬ x ∈ xs := fun hm => by
 obtain ⟨i, hi, e⟩ := List.mem_iff_getElem.1 hm
 exact h i (by omega) (by simpa [hi] using e)
theorem mem_getDI {xs : List Int} {x : Int} {k : Nat} (hk : k < xs.length) (e : xs.getD k 0 = x) : x ∈ xs := by rw [← e]; simp [hk]
theorem none_succI {L : List Int} {x : Int} {i : Nat} (h : ∀ j, j < i → ¬ L.getD j 0 = x) (e : ¬ L.getD i 0 = x) : ∀ j, j < i + 1 → ¬ L.getD j 0 = x := fun j hj => by
 rcases Nat.lt_or_ge j i with h' | h'
 ·exact h j h'
 ·rw [show j = i by omega]; exact e
theorem aft_in {c : Cfg} (hc : cfgOk c) {s : Int} (h : 0 ≤ s ∧ s < c.sl) : aftS c s = -3 - c.th - s := by unfold aftS; rw [if_pos h]
theorem mPeekG_ok (w0 : World) (p q n t : Nat) (M : MemM) (l : K.Cs) (x : MemAt l p q n t M) (i : Int) (hi : isInt i) (h : i < 0 ∧ -1 - i < M.pass.length) : K.GC Tryz.prog w0 47 #[.pointer (some ⟨p, 0, none⟩), .int .i64 i] [l] (fun v post => v = .tuple #[.int .u64 ((M.peek n i).getD 0), .bool true] ∧ post = [l]) := by
 refine (mPeek_ok w0 p q n t M l x i hi).mono ?_
 rintro v post ⟨rfl, ⟨y, rfl, e⟩ | ⟨rfl, e⟩⟩
 ·rw [e]; exact ⟨rfl, rfl⟩
 ·rw [peek_pass h] at e; cases e
set_option maxHeartbeats 1000000 in
set_option maxRecDepth 100000 in
theorem index_ok (w0 : World) (a : Option Addr) (cap : Nat) (xs : List Int) (x : Int) (hm : xs.length ≤ 1000000) (gx : K.Cs) (hx : ∀ w, K.Sat w0 [gx] w → K.RowE w a xs.length 1 (fun i => cI64 (xs.getD i 0))) :
  K.GC Tryz.prog w0 105 #[.slice a xs.length cap, .int .i64 x] [gx] (fun v post => post = [gx] ∧ ((∃ k : Nat, v = .int .i64 k ∧ k < xs.length ∧ x ∈ xs) ∨ (v = .int .i64 (-1) ∧ ¬ x ∈ xs))) := by
 refine K.GC.mk (n := 19) Tryz.func105 rfl rfl [.slice a xs.length cap, .int .i64 x] rfl rfl ?_
 intro fr w hS
 replace hS : K.Sat w0 [gx, fr] w := hS
 refine K.s (K.g (K.q [.int .i64 0] (K.z (K.t (K.s (K.s (K.g (K.q [.slice a xs.length cap] ?_))))))))
 refine K.a (K.QR.len (P := Tryz.prog) rfl rfl Tryz.underlying45) ?_
 refine K.q [.int .i64 0] (K.z (K.t ?_))
 refine K.KW.block ?_
 refine K.KW.loop (fun m_ F_ w_ => ∃ (k : Nat), m_ = xs.length - k ∧ K.Sl F_ [(0, .slice a xs.length cap), (1, .int .i64 x), (7, .int .i64 ((xs.length : Nat) : Int)), (8, .int .i64 ((k : Nat) : Int)), (19, undef)] ∧ k ≤ xs.length ∧ ((∀ q, q < k → ¬ xs.getD q 0 = x)) ∧ K.Sat w0 [gx, fr] w_) ((fun (k : Nat) => xs.length - k) 0) ?_ ?_
 ·
  exact ⟨0, rfl, ⟨by rfl, by rfl, by rfl, by rfl, by rfl, trivial⟩, (by omega), (fun q h => absurd h (by omega)), hS.pick [0, 1]⟩
 ·
  clear hS
  intro m_1 F_2 w hI
  obtain ⟨k, rfl, sl_3, p_4, hno, hS⟩ := hI
  rw [← K.Sl.puts sl_3]; clear sl_3
  refine K.s (K.g ?_)
  by_cases h_5 : (((k : Nat) : Int) : Int) < (((xs.length : Nat) : Int) : Int)
  ·
   refine K.y ((((k : Nat) : Int) : Int) < (((xs.length : Nat) : Int) : Int)) h_5 ?_
   refine K.z (K.t (K.s (K.h (K.k (K.t (K.s ?_))))))
   refine K.KW.block ?_
   refine K.s (K.g (K.q [.int .i64 ((k : Nat) : Int), .int .i64 ((k : Nat) : Int)] (K.z (K.t (K.s ?_)))))
   obtain ⟨b_6, of_7, rfl, _⟩ := (hx _ (hS.pick [0])).at_ (by omega)
   refine K.g (K.q [.int .i64 x, .slice (some ⟨b_6, of_7, none⟩) xs.length cap, .int .i64 ((k : Nat) : Int)] ?_)
   refine K.a (K.QR.ix (of_7 + k * 1) 1 rfl rfl rfl Tryz.underlying45 (by kernel_rfl) (by omega) (by first | (simp; done) | omega | (simp; omega))) ?_
   refine K.d (.int .i64 (xs.getD k 0)) ((hx _ (hS.pick [0])).ld k (by omega) 0 _ rfl) ?_
   by_cases h_8 : (x : Int) = (xs.getD k 0 : Int)
   ·
    refine K.ye (x : Int) (xs.getD k 0 : Int) h_8 ?_
    refine K.z (K.t (K.h (K.s (K.g (K.q [.int .i64 ((k : Nat) : Int), .int .i64 ((k : Nat) : Int)] (K.z (K.t (K.r ?_))))))))
    refine K.blk_ret ?_
    refine K.u (K.u ?_)
    refine K.blk_ret ?_
    refine K.u ?_
    refine ⟨.inr rfl, rfl, (.int .i64 ((k : Nat) : Int)), K.res1 rfl rfl, [gx], ?_, hS.pick [0, 1]⟩
    exact ⟨rfl, .inl ⟨k, rfl, by omega, mem_getDI (k := k) (by omega) (by omega)⟩⟩
   ·
    refine K.xe (x : Int) (xs.getD k 0 : Int) h_8 ?_
    refine K.z (K.t (K.f (K.k ?_)))
    refine K.blk_normal ?_
    refine K.t (K.g ?_)
    refine K.a (K.QR.n64 ((((k : Nat) : Int) : Int) + (1 : Int)) ((k + 1 : Nat) : Int) (by kernel_rfl) (by omega)) ?_
    refine K.q [.int .i64 ((k + 1 : Nat) : Int)] (K.z (K.t ?_))
    refine ⟨_, ?_, k + 1, rfl, ⟨by rfl, by rfl, by rfl, by rfl, by rfl, trivial⟩, (by omega), (none_succI hno (fun e => (by assumption : ¬ _) e.symm)), hS.pick [0, 1]⟩
    omega
  ·
   refine K.x ((((k : Nat) : Int) : Int) < (((xs.length : Nat) : Int) : Int)) h_5 ?_
   refine K.z (K.t (K.s (K.f ?_)))
   refine K.KW.exit ?_
   refine K.thn_exit ?_
   refine K.thn_exit ?_
   refine K.blk_hit ?_
   refine K.t (K.s (K.g (K.q [.int .i64 (-1)] (K.z (K.t (K.r ?_))))))
   refine ⟨.inr rfl, rfl, (.int .i64 (-1)), K.res1 rfl rfl, [gx], ?_, hS.pick [0, 1]⟩
   exact ⟨rfl, .inr ⟨rfl, not_mem_snoc hno (by omega)⟩⟩
set_option maxHeartbeats 1000000 in
set_option maxRecDepth 100000 in
theorem contains_ok (w0 : World) (a : Option Addr) (cap : Nat) (xs : List Int) (x : Int) (hm : xs.length ≤ 1000000) (gx : K.Cs) (hx : ∀ w, K.Sat w0 [gx] w → K.RowE w a xs.length 1 (fun i => cI64 (xs.getD i 0))) :
  K.GC Tryz.prog w0 56 #[.slice a xs.length cap, .int .i64 x] [gx] (fun v post => post = [gx] ∧ ((v = .bool true ∧ x ∈ xs) ∨ (v = .bool false ∧ ¬ x ∈ xs))) := by
 refine K.GC.mk (n := 9) Tryz.func56 rfl rfl [.slice a xs.length cap, .int .i64 x] rfl rfl ?_
 intro fr w hS
 replace hS : K.Sat w0 [gx, fr] w := hS
 refine K.s (K.g (K.q [.bool false] (K.z (K.t (K.s (K.g (K.q [.slice a xs.length cap, .int .i64 x] ?_)))))))
 refine K.l (K.OW.gcall hS [0] [1] [.slice a xs.length cap, .int .i64 x] (index_ok _ _ _ xs x (by first | omega | decide) _ hx) ?_)
 clear hS; rintro _ _ w ⟨rfl, (⟨k_1, rfl, h_2, h2_3⟩ | ⟨rfl, h_4⟩)⟩ hS
 ·
  replace hS : K.Sat w0 [gx, fr] w := hS
  refine K.y ((((k_1 : Nat) : Int) : Int) ≥ (0 : Int)) (by omega) ?_
  refine K.q [.bool true] (K.z (K.t (K.r ?_)))
  refine ⟨.inr rfl, rfl, (.bool true), K.res1 rfl rfl, [gx], ?_, hS.pick [0, 1]⟩
  exact ⟨rfl, .inl ⟨rfl, by assumption⟩⟩
 ·
  replace hS : K.Sat w0 [gx, fr] w := hS
  refine K.q [.bool false, .bool false] (K.z (K.t (K.r ?_)))
  refine ⟨.inr rfl, rfl, (.bool false), K.res1 rfl rfl, [gx], ?_, hS.pick [0, 1]⟩
  exact ⟨rfl, .inr ⟨rfl, by assumption⟩⟩
set_option maxHeartbeats 1000000 in
set_option maxRecDepth 100000 in
theorem list_ok (w0 : World) (b pm q n t : Nat) (c : Cfg) (hc : cfgOk c) (hf : c.sl ≤ 65536) (M : MemM) (gl l : K.Cs) (hgl : gl = layPt b c) (x : MemAt l pm q n t M) (hM : M.good) (hP : (M.pass.length : Int) = 2 + c.th + c.sl) :
  K.GC Tryz.prog w0 17 #[.pointer (some ⟨b, 0, none⟩), .pointer (some ⟨pm, 0, none⟩)] [gl, l] (fun v post => ∃ r cc l2, v = .tuple #[.slice r (listG c n M).1.length cc, .bool (listG c n M).2] ∧ post = [gl, l, l2] ∧ K.OwnG l2 3 1 r (listG c n M).1.length cc ((listG c n M).1.flatMap cI64)) := by
 have hcc := hc
 unfold cfgOk at hcc
 refine K.GC.mk (n := 50) Tryz.func17 rfl rfl [.pointer (some ⟨b, 0, none⟩), .pointer (some ⟨pm, 0, none⟩)] rfl rfl ?_
 intro fr w hS
 replace hS : K.Sat w0 [gl, l, fr] w := hS
 refine K.s (K.g (K.q [.slice none 0 0, .bool false] (K.z (K.t (K.s (K.g (K.q [.slice none 0 0] (K.z (K.t (K.s (K.g (K.q [.pointer (some ⟨pm, 0, none⟩), .pointer (some ⟨b, 0, none⟩)] ?_))))))))))))
 refine K.l (K.OW.kcall hS [.pointer (some ⟨b, 0, none⟩)] (lFree _ c  _ (by assumption) (hS.blk 0 rfl hgl)) ?_)
 rintro _ w ⟨rfl, c_1⟩
 replace hS := hS.no c_1
 refine K.l (K.OW.gcall hS [1] [0, 2] [.pointer (some ⟨pm, 0, none⟩), .int .i64 (-2)] (mPeekG_ok _ _ _ _ _ _ _ x ((-2) : Int) (by first | omega | assumption | exact log_int (by assumption) _ _ | exact aft_int (by assumption) _ | exact ann_int (by assumption) _ (by omega)) (by first | omega | (rw [aft_in (by assumption) (by omega)]; omega))) ?_)
 clear hS; rintro _ _ w ⟨rfl, rfl⟩ hS
 replace hS : K.Sat w0 [l, gl, fr] w := hS
 have hw_2 : isW ((M.peek n ((-2) : Int)).getD 0) := peek0_W (by assumption)
 refine K.q [.tuple #[.int .u64 ((M.peek n ((-2) : Int)).getD 0), .bool true], .int .u64 ((M.peek n ((-2) : Int)).getD 0), .bool true, .int .u64 ((M.peek n ((-2) : Int)).getD 0), .bool true] (K.z (K.t (K.s ?_)))
 refine K.KW.block ?_
 obtain ⟨z_3, hz_4⟩ : ∃ z : K.Cs, z = [] := ⟨_, rfl⟩
 replace hS : K.Sat w0 [z_3, l, gl, fr] w := hS.of (by simp [hz_4])
 have o_5 : K.OwnG z_3 3 1 none 0 0 [] := by rw [hz_4]; exact K.OwnG.nil _ _
 refine K.KW.loop (fun m_ F_ w_ => ∃ (o : List Int) (ww : Int) (q1 : Option Addr) (c1 : Nat) (o1 : K.Cs), m_ = c.sl.toNat + 2 - o.length ∧ K.Sl F_ [(0, .pointer (some ⟨b, 0, none⟩)), (1, .pointer (some ⟨pm, 0, none⟩)), (6, .slice q1 o.length c1), (7, .int .u64 ww), (8, .bool true), (50, undef)] ∧ listG c n M = listC c n M (c.sl.toNat + 2 - o.length) o ww ∧ o.Nodup ∧ ((∀ y ∈ o, 0 ≤ y ∧ y < c.sl)) ∧ isW ww ∧ o.length ≤ c.sl.toNat ∧ K.OwnG o1 3 1 q1 o.length c1 ((o).flatMap cI64) ∧ K.Sat w0 [o1, l, gl, fr] w_) ((fun (o : List Int) (ww : Int) (q1 : Option Addr) (c1 : Nat) => c.sl.toNat + 2 - o.length) [] ((M.peek n (-2)).getD 0) none 0) ?_ ?_
 ·
  exact ⟨[], ((M.peek n (-2)).getD 0), none, 0, z_3, rfl, ⟨by rfl, by rfl, by rfl, by rfl, by rfl, by rfl, trivial⟩, (by unfold listG; rfl), (List.nodup_nil), (fun y h => by cases h), (by assumption), (by exact Nat.zero_le _), o_5, hS.pick [0, 1, 2, 3]⟩
 ·
  clear hS
  intro m_6 F_7 w hI
  obtain ⟨o, ww, q1, c1, o1, rfl, sl_8, hlist, hnd, hin, p_9, p_10, x_11, hS⟩ := hI
  rw [← K.Sl.puts sl_8]; clear sl_8
  refine K.s (K.s (K.g (K.q [.bool true, .bool true, .int .u64 ww] ?_)))
  refine K.l (K.OW.gcall hS [] [0, 1, 2, 3] [.int .u64 ww] (to_ok _ ww (by first | assumption | (unfold isW; omega))) ?_)
  clear hS; rintro _ _ w ⟨rfl, rfl⟩ hS
  replace hS : K.Sat w0 [o1, l, gl, fr] w := hS
  by_cases h_12 : ((toI ww) : Int) = ((-1) : Int)
  ·
   refine K.xn ((toI ww) : Int) ((-1) : Int) h_12 ?_
   refine K.q [.bool false] (K.z (K.t (K.f ?_)))
   refine K.KW.exit ?_
   refine K.thn_exit ?_
   refine K.thn_exit ?_
   refine K.blk_hit ?_
   refine K.t (K.s (K.g (K.q [.slice q1 o.length c1, .bool true, .slice q1 o.length c1, .bool true] (K.z (K.t (K.r ?_))))))
   have e : listG c n M = (o, true) := hlist.trans (listC_end (by omega) (by assumption))
   refine ⟨.inr rfl, rfl, (.tuple #[.slice q1 o.length c1, .bool true]), K.res2 rfl rfl rfl, [gl, l, o1], ?_, hS.pick [2, 1, 0, 3]⟩
   exact ⟨_, _, _, by rw [e], rfl, by rw [e]; exact x_11⟩
  ·
   refine K.yn ((toI ww) : Int) ((-1) : Int) h_12 ?_
   refine K.q [.bool true] (K.z (K.t (K.h (K.k (K.t ?_)))))
   refine K.KW.block ?_
   refine K.s (K.g (K.q [.int .u64 ww] ?_))
   refine K.l (K.OW.gcall hS [] [0, 1, 2, 3] [.int .u64 ww] (to_ok _ ww (by first | assumption | (unfold isW; omega))) ?_)
   clear hS; rintro _ _ w ⟨rfl, rfl⟩ hS
   replace hS : K.Sat w0 [o1, l, gl, fr] w := hS
   refine K.q [.int .i64 (toI ww)] (K.z (K.t (K.s (K.s ?_))))
   have hge := toI_ge ww
   refine K.g (K.q [.int .i64 (toI ww), .pointer (some ⟨b, 0, none⟩)] ?_)
   refine K.l (K.OW.kcall hS [.pointer (some ⟨b, 0, none⟩)] (lConfig _ c  _ (by assumption) (hS.blk 2 rfl hgl)) ?_)
   rintro _ w ⟨rfl, c_13⟩
   replace hS := hS.no c_13
   refine K.q [.int .i64 c.sl] ?_
   by_cases h_14 : ((toI ww) : Int) ≥ (c.sl : Int)
   ·
    refine K.y (((toI ww) : Int) ≥ (c.sl : Int)) h_14 ?_
    refine K.q [.bool true] (K.n_ (K.n_ (K.n_ (K.q [.bool true] (K.z (K.t (K.h (K.s (K.g (K.q [.slice q1 o.length c1, .slice q1 o.length c1, .bool false] (K.z (K.t (K.r (K.u ?_))))))))))))))
    refine K.blk_ret ?_
    refine K.u ?_
    refine K.blk_ret ?_
    refine K.u ?_
    have e : listG c n M = (o, false) := hlist.trans (listC_bad (by omega) (by assumption) (by first | exact .inl (by omega) | exact .inr (by assumption)))
    refine ⟨.inr rfl, rfl, (.tuple #[.slice q1 o.length c1, .bool false]), K.res2 rfl rfl rfl, [gl, l, o1], ?_, hS.pick [2, 1, 0, 3]⟩
    exact ⟨_, _, _, by rw [e], rfl, by rw [e]; exact x_11⟩
   ·
    refine K.x (((toI ww) : Int) ≥ (c.sl : Int)) h_14 ?_
    refine K.q [.bool false, .slice q1 o.length c1, .int .i64 (toI ww)] ?_
    refine K.l (K.OW.gcall hS [0] [1, 2, 3] [.slice q1 o.length c1, .int .i64 (toI ww)] (contains_ok _ _ _ o (toI ww) (by first | omega | decide) _ (fun w h => K.RowE.len (K.Own.rowE 0 (h.ownr 0 rfl x_11) rfl (fun _ => rfl)) rfl)) ?_)
    clear hS; rintro _ _ w ⟨rfl, (⟨rfl, h_15⟩ | ⟨rfl, h_16⟩)⟩ hS
    ·
     replace hS : K.Sat w0 [o1, l, gl, fr] w := hS
     refine K.q [.bool true] (K.z (K.t (K.h (K.s (K.g (K.q [.slice q1 o.length c1, .slice q1 o.length c1, .bool false] (K.z (K.t (K.r (K.u ?_))))))))))
     refine K.blk_ret ?_
     refine K.u ?_
     refine K.blk_ret ?_
     refine K.u ?_
     have e : listG c n M = (o, false) := hlist.trans (listC_bad (by omega) (by assumption) (by first | exact .inl (by omega) | exact .inr (by assumption)))
     refine ⟨.inr rfl, rfl, (.tuple #[.slice q1 o.length c1, .bool false]), K.res2 rfl rfl rfl, [gl, l, o1], ?_, hS.pick [2, 1, 0, 3]⟩
     exact ⟨_, _, _, by rw [e], rfl, by rw [e]; exact x_11⟩
    ·
     replace hS : K.Sat w0 [o1, l, gl, fr] w := hS
     refine K.q [.bool false] (K.z (K.t (K.f (K.k (K.t (K.s (K.g (K.q [.slice q1 o.length c1, .int .i64 (toI ww)] ?_))))))))
     refine K.l (K.OW.gbs [(0, .int .i64 (toI ww))] [.int .i64 (toI ww)] hS (fun w => K.bs_run (P := Tryz.prog) w 45 3 1 _ _ Tryz.underlying45 (by kernel_rfl)) ?_)
     clear hS; intro w r_17 g_18 hg_19 hS
     refine K.l (K.OW.gapp (P := Tryz.prog) (xs := (o).flatMap cI64) (z := .int .i64 0) (size := 1) (bytes := 8) 1 [.int .i64 (toI ww)] hS x_11 ?_ (fun j u hj => (by rw [Nat.zero_add]; exact (hS.blk 0 rfl hg_19).cell hj)) (K.one_cells (by rfl)) (by rfl) Tryz.underlying45 (by kernel_rfl) rfl (by decide) (by unfold maxLen; omega) (by omega))
     clear hS; intro a_20 cap_21 w l_22 o_23 hS
     have ln_24 : ((o ++ [((toI ww) : Int)])).length = o.length + 1 := by rw [List.length_append]; rfl
     have o_23c := K.OwnG.cast (xs' := ((o ++ [((toI ww) : Int)])).flatMap cI64) o_23 rfl (K.fl_snoc cI64 o _ rfl)
     replace hS : K.Sat w0 [g_18, l_22, l, gl, fr] w := hS
     refine K.q [.slice a_20 (o.length + 1) cap_21] (K.z (K.t (K.g (K.q [.pointer (some ⟨pm, 0, none⟩), .pointer (some ⟨b, 0, none⟩), .int .i64 (toI ww)] ?_))))
     refine K.l (K.OW.kcall hS [.pointer (some ⟨b, 0, none⟩), .int .i64 (toI ww)] (lAfter _ c (toI ww) _ (by assumption) (hS.blk 3 rfl hgl)) ?_)
     rintro _ w ⟨rfl, c_25⟩
     replace hS := hS.no c_25
     refine K.l (K.OW.gcall hS [2] [0, 1, 3, 4] [.pointer (some ⟨pm, 0, none⟩), .int .i64 (aftS c (toI ww))] (mPeekG_ok _ _ _ _ _ _ _ x (aftS c (toI ww)) (by first | omega | assumption | exact log_int (by assumption) _ _ | exact aft_int (by assumption) _ | exact ann_int (by assumption) _ (by omega)) (by first | omega | (rw [aft_in (by assumption) (by omega)]; omega))) ?_)
     clear hS; rintro _ _ w ⟨rfl, rfl⟩ hS
     replace hS : K.Sat w0 [l, g_18, l_22, gl, fr] w := hS
     have hw_26 : isW ((M.peek n (aftS c (toI ww))).getD 0) := peek0_W (by assumption)
     refine K.q [.tuple #[.int .u64 ((M.peek n (aftS c (toI ww))).getD 0), .bool true], .int .u64 ((M.peek n (aftS c (toI ww))).getD 0), .bool true, .int .u64 ((M.peek n (aftS c (toI ww))).getD 0), .bool true] (K.z ?_)
     refine K.blk_normal ?_
     refine K.t ?_
     refine ⟨_, ?_, (o ++ [((toI ww) : Int)]), ((M.peek n (aftS c (toI ww))).getD 0), a_20, cap_21, l_22, rfl, ⟨by rfl, by rfl, congrArg (fun m_ => Value.slice a_20 m_ cap_21) (by first | rfl | omega | (simp; done) : o.length + 1 = ((o ++ [((toI ww) : Int)])).length), by rfl, by rfl, by rfl, trivial⟩, (hlist.trans (listC_on (by (try rw [List.length_append]); simp; omega) (by assumption) (by assumption) (by assumption))), (nodup_snoc hnd (by assumption)), (in_snoc hin (by have := toI_ge ww; omega)), (by assumption), (by have := nodup_le c.sl.toNat _ (nodup_snoc hnd (by assumption : ¬ toI ww ∈ o)) (fun y hy => by have := in_snoc hin (by have := toI_ge ww; omega : 0 ≤ toI ww ∧ toI ww < c.sl) y hy; omega); exact this), (by first | exact o_23c | (have h := o_23c; simpa using h)), hS.pick [2, 0, 3, 4]⟩
     (try rw [List.length_append]); simp; omega
def ChainF (f : Int → Int) : Int → List Int → Prop
 | w, [] => toI w = -1
 | w, s :: L => toI w = s ∧ ChainF f (f s) L
theorem ChainF.ext {f g : Int → Int} : ∀ {L : List Int} {w : Int}, (∀ s ∈ L, f s = g s) → ChainF f w L → ChainF g w L
 | [], _, _, h => h
 | s :: L, w, he, h => ⟨h.1, by rw [← he s (by simp)]; exact ChainF.ext (fun x hx => he x (by simp [hx])) h.2⟩
def aftW (c : Cfg) (n : Nat) (M : MemM) (s : Int) : Int := (M.peek n (aftS c s)).getD 0
def topW (n : Nat) (M : MemM) : Int := (M.peek n (-2)).getD 0
theorem listC_chain {c : Cfg} {n : Nat} {M : MemM} : ∀ (L : List Int) (m : Nat) (o : List Int) (w : Int), ChainF (aftW c n M) w L → (o ++ L).Nodup → (∀ s ∈ L, 0 ≤ s ∧ s < c.sl) → L.length < m → listC c n M m o w = (o ++ L, true)
 | [], m, o, w, h, _, _, hm => by rw [listC_end (by simpa using hm) h, List.append_nil]
 | s :: L, 0, o, w, _, _, _, hm => by simp at hm
 | s :: L, m + 1, o, w, h, hn, hr, hm => by
  have hs := hr s (by simp)
  have hno : ¬ s ∈ o := fun hx => (List.nodup_append.1 hn).2.2 s hx s (by simp) rfl
  rw [listC_on rfl (by rw [h.1]; omega) (by rw [h.1]; omega) (by rw [h.1]; exact hno), h.1]
  have := listC_chain L m (o ++ [s]) ((M.peek n (aftS c s)).getD 0) h.2 (by simpa using hn) (fun x hx => hr x (by simp [hx])) (by simpa using hm)
  rw [this, List.append_assoc]; rfl
theorem listG_chain {c : Cfg} {n : Nat} {M : MemM} {L : List Int} (h : ChainF (aftW c n M) (topW n M) L) (hn : L.Nodup) (hr : ∀ s ∈ L, 0 ≤ s ∧ s < c.sl) : listG c n M = (L, true) := by
 have hl := nodup_le c.sl.toNat L hn (fun y hy => by have := hr y hy; omega)
 unfold listG
 exact listC_chain L _ [] _ h (by simpa using hn) hr (by omega)
theorem toI_topI {x v : Int} (h : -1 ≤ x ∧ x < 4294967295) : toI (topI x v) = x := by unfold toI topI; omega
theorem toI_newer {x w : Int} (h : -1 ≤ x ∧ x < 4294967295) : toI (newerI x w) = x := toI_topI h
theorem accF_ok {M : MemM} {n nt : Nat} {th i : Int} (h : M.dev.ok n nt) : (M.accF n nt th i).1.dev.ok n nt := by
 show (if decide _ = true then _ else M).dev.ok n nt
 split
 ·rename_i hd
  have hd := of_decide_eq_true hd
  exact h.mark (by omega)
 ·exact h
theorem accE_ok {M : MemM} {n nt : Nat} {th : Int} (h : M.dev.ok n nt) : (M.accE nt th).1.dev.ok n nt := by
 show (if decide _ = true then _ else M).dev.ok n nt
 split
 ·rename_i hd
  have hd := of_decide_eq_true hd
  exact h.fence (by omega)
 ·exact h
theorem accF_pass {M : MemM} {n nt : Nat} {th i : Int} : (M.accF n nt th i).1.pass.length = M.pass.length := by
 show (if decide _ = true then _ else M).pass.length = _
 split <;> rfl
theorem accE_pass {M : MemM} {nt : Nat} {th : Int} : (M.accE nt th).1.pass.length = M.pass.length := by
 show (if decide _ = true then _ else M).pass.length = _
 split <;> rfl
theorem accW_okN {M : MemM} {n nt : Nat} {th i old w : Int} (hi : i < 0) (h : M.dev.ok n nt) : (M.accW n th i old w).1.dev.ok n nt := by
 show (if (M.peek n i == some old) = true then M.put i w else M).dev.ok n nt
 split
 ·rw [putP (by omega)]; exact h
 ·exact h
theorem put1_int {x y : Int} (h : isInt x) : ∀ j, j < [(⟨x, y⟩ : PutM)].length → isInt ([(⟨x, y⟩ : PutM)].getD j pu0).at_ := fun j hj => by
 have h0 : j = 0 := by simp at hj; omega
 subst h0; exact h
/-- a log of which the first place has a word, the epoch, and the top of the free list -/
structure AL (c : Cfg) (t x e f : Int) (M : MemM) : Prop where
 ok : M.dev.ok (lns c).toNat c.th.toNat
 good : M.good
 pl : (M.pass.length : Int) = 2 + c.th + c.sl
 lg : ∀ k : Nat, (k : Int) < c.lo → M.peek (lns c).toNat (logS c t (k : Int)) = some (if k = 0 then x else 0)
 ep : M.peek (lns c).toNat (-1) = some e
 tp : M.peek (lns c).toNat (-2) = some f
section
variable {c : Cfg} {t x e f th i w : Int} {M : MemM}
theorem AL.same {M' : MemM} (h : AL c t x e f M) (hok : M'.dev.ok (lns c).toNat c.th.toNat) (hg : M'.good) (hp : M'.pass.length = M.pass.length) (hk : ∀ j, M'.peek (lns c).toNat j = M.peek (lns c).toNat j) : AL c t x e f M' :=
 ⟨hok, hg, by rw [hp]; exact h.pl, fun k hk2 => (hk _).trans (h.lg k hk2), (hk _).trans h.ep, (hk _).trans h.tp⟩
theorem AL.load (h : AL c t x e f M) : AL c t x e f (M.accL (lns c).toNat th i).1 := h.same h.ok (accL_good h.good).1 rfl (fun _ => rfl)
theorem AL.flush (h : AL c t x e f M) : AL c t x e f (M.accF (lns c).toNat c.th.toNat th i).1 := h.same (accF_ok h.ok) (accF_good' h.good) accF_pass (fun _ => accF_pk)
theorem AL.fence (h : AL c t x e f M) : AL c t x e f (M.accE c.th.toNat th).1 := h.same (accE_ok h.ok) (accE_good' h.good) accE_pass (fun _ => accE_pk)
theorem AL.elast {pc pl : Int} (h : AL c t x e f M) : AL c t x e f (elast c (lns c).toNat c.th.toNat th pc pl M) := by
 unfold _root_.Go.Proofs.YtkmndplicmaahaaGreat.elast
 split
 ·exact h.flush
 ·exact h.fence
theorem AL.putl (hc : cfgOk c) (ht : 0 ≤ t ∧ t < c.th) (h : AL c t x e f M) (hw : isW w) : AL c t w e f (M.accS (lns c).toNat th (logS c t 0) w).1 := by
 have hlo : 1 ≤ c.lo := by unfold cfgOk at hc; omega
 have h0 := log_at hc ht (k := 0) (by omega)
 refine ⟨accS_ok h.ok, accS_good h.good hw, by rw [accS_pass]; exact h.pl, fun k hk => ?_, ?_, ?_⟩
 ·have hin := log_at hc ht (k := (k : Int)) (by omega)
  rw [accS_pk h.ok.2.1 h0.2]
  by_cases hk0 : k = 0
  ·subst hk0; rw [if_pos (by rfl), if_pos (by rfl)]
  ·rw [if_neg (by omega), if_neg hk0, h.lg k hk, if_neg hk0]
 ·rw [accS_pk h.ok.2.1 h0.2, if_neg (by omega)]; exact h.ep
 ·rw [accS_pk h.ok.2.1 h0.2, if_neg (by omega)]; exact h.tp
theorem AL.pute (hc : cfgOk c) (ht : 0 ≤ t ∧ t < c.th) (h : AL c t x e f M) (hw : isW w) : AL c t x w f (M.accS (lns c).toNat th (-1) w).1 := by
 have hpl := h.pl
 unfold cfgOk at hc
 refine ⟨accS_ok h.ok, accS_good h.good hw, by rw [accS_pass]; exact h.pl, fun k hk => ?_, ?_, ?_⟩
 ·have hin := log_at hc ht (k := (k : Int)) (by omega)
  rw [accS_peek (by omega), if_neg (by omega)]; exact h.lg k hk
 ·rw [accS_peek (by omega), if_pos ⟨rfl, by omega⟩]
 ·rw [accS_peek (by omega), if_neg (by omega)]; exact h.tp
theorem AL.puta (hc : cfgOk c) (ht : 0 ≤ t ∧ t < c.th) {s : Int} (hs : 0 ≤ s ∧ s < c.sl) (h : AL c t x e f M) (hw : isW w) : AL c t x e f (M.accS (lns c).toNat th (aftS c s) w).1 ∧ (M.accS (lns c).toNat th (aftS c s) w).1.peek (lns c).toNat (aftS c s) = some w := by
 have hpl := h.pl
 rw [aft_in hc hs]
 unfold cfgOk at hc
 refine ⟨⟨accS_ok h.ok, accS_good h.good hw, by rw [accS_pass]; exact h.pl, fun k hk => ?_, ?_, ?_⟩, ?_⟩
 ·have hin := log_at hc ht (k := (k : Int)) (by omega)
  rw [accS_peek (by omega), if_neg (by omega)]; exact h.lg k hk
 ·rw [accS_peek (by omega), if_neg (by omega)]; exact h.ep
 ·rw [accS_peek (by omega), if_neg (by omega)]; exact h.tp
 ·rw [accS_peek (by omega), if_pos ⟨rfl, by omega⟩]
theorem AL.swap (hc : cfgOk c) (ht : 0 ≤ t ∧ t < c.th) (h : AL c t x e f M) (hw : isW w) : AL c t x e w (M.accW (lns c).toNat th (-2) f w).1 ∧ (M.accW (lns c).toNat th (-2) f w).2.done = true ∧ ∀ s : Int, 0 ≤ s ∧ s < c.sl → (M.accW (lns c).toNat th (-2) f w).1.peek (lns c).toNat (aftS c s) = M.peek (lns c).toNat (aftS c s) := by
 have hpl := h.pl
 have hc2 := hc
 unfold cfgOk at hc2
 refine ⟨⟨accW_okN (by omega) h.ok, accW_good h.good hw, by rw [accW_pass]; exact h.pl, fun k hk => ?_, ?_, ?_⟩, ?_, fun s hs => ?_⟩
 ·have hin := log_at hc ht (k := (k : Int)) (by omega)
  rw [accW_peek (by omega), if_neg (by omega)]; exact h.lg k hk
 ·rw [accW_peek (by omega), if_neg (by omega)]; exact h.ep
 ·rw [accW_peek (by omega), if_pos ⟨rfl, h.tp⟩]
 ·show (M.peek (lns c).toNat (-2) == some f) = true; rw [h.tp]; simp
 ·rw [aft_in hc hs, accW_peek (by omega), if_neg (by omega)]
theorem AL.start (hc : cfgOk c) (ht : 0 ≤ t ∧ t < c.th) (hw : isW w) : AL c t 0 w 0 (groundM (lns c).toNat c.th.toNat (2 + c.th + c.sl).toNat [⟨-1, w⟩]) := by
 have e : groundM (lns c).toNat c.th.toNat (2 + c.th + c.sl).toNat [⟨-1, w⟩] = ((groundM (lns c).toNat c.th.toNat (2 + c.th + c.sl).toNat []).accS (lns c).toNat 0 (-1) w).1 := ground_snoc _ _ _ [] ⟨-1, w⟩
 rw [e]
 have hcc := hc
 unfold cfgOk at hcc
 have hp : ∀ i : Int, i < 0 → -1 - i < 2 + c.th + c.sl → (groundM (lns c).toNat c.th.toNat (2 + c.th + c.sl).toNat []).peek (lns c).toNat i = some 0 := fun i h0 h1 => by
  show (MemM.of (DevM.fresh (List.replicate ((lns c).toNat * 8) 0) (lns c).toNat c.th.toNat) (2 + c.th + c.sl).toNat).peek (lns c).toNat i = _
  rw [peek_pass (by simp [MemM.of]; omega)]
  have : (-1 - i).toNat < (2 + c.th + c.sl).toNat := by omega
  simp [MemM.of, this]
 refine AL.pute hc ht (e := 0) ⟨fresh_ok hc, ground_good (fun j hj => absurd hj (by simp)), by rw [ground_pass]; omega, fun k hk => ?_, hp _ (by omega) (by omega), hp _ (by omega) (by omega)⟩ hw
 have hin := log_at hc ht (k := (k : Int)) (by omega)
 show (MemM.of (DevM.fresh (List.replicate ((lns c).toNat * 8) 0) (lns c).toNat c.th.toNat) _).peek _ _ = _
 rw [peek_dev hin.2]
 congr 1
 show (List.replicate ((lns c).toNat * 8) (0 : Int)).getD _ 0 = _
 rw [List.getD_eq_getElem?_getD, List.getElem?_replicate]
 split <;> split <;> rfl
theorem AL.slots (h : AL c t x e f M) : ∀ k : Nat, (k : Int) ≤ c.lo → slotsT c (lns c).toNat M t k = if k = 0 then [] else if x = 0 then [] else [toI x]
 | 0, _ => rfl
 | k + 1, hk => by
  have hl := h.lg k (by omega)
  have ih := AL.slots h k (by omega)
  rw [if_neg (by omega)]
  by_cases h0 : k = 0
  ·subst h0
   rw [if_pos rfl] at hl ih
   by_cases hx : x = 0
   ·rw [if_pos hx, slotsT_no (by rw [hl]; exact hx), ih]
   ·rw [if_neg hx, slotsT_yes hl hx, ih]; rfl
  ·rw [if_neg h0] at hl ih
   rw [slotsT_no (by rw [hl]; rfl), ih]
end
theorem entry_none {s : Int} (h : 0 ≤ s ∧ s < 100) : entryI s (-1) = s + 1 := by unfold entryI; omega
theorem entry_rd {s e : Int} (h : 0 ≤ s ∧ s < 100) (he : 0 ≤ e ∧ e < 1000) : toI (entryI s e) = s ∧ stampI (entryI s e) = e ∧ ¬ entryI s e = 0 := by unfold entryI toI stampI; omega
/-- a Reserve alone, behind i steps -/
structure RA (c : Cfg) (tt s e f : Int) (i : Nat) (S : ResS) (M : MemM) : Prop where
 good : S.good
 t : S.t = tt
 slot : S.slot = s
 mg : M.good
 st : (i = 0 ∧ S.pc = 0 ∧ S.next = 0 ∧ AL c tt 0 e f M) ∨ (i = 1 ∧ S.pc = 1 ∧ S.place = 0 ∧ AL c tt 0 e f M) ∨ (2 ≤ i ∧ (S.pc = 2 ∧ i = 2 ∨ S.pc = 3 ∧ i = 3 ∨ S.pc = 5 ∧ 4 ≤ i) ∧ S.place = 0 ∧ AL c tt (s + 1) e f M)
theorem RA.next {c : Cfg} {t s e f : Int} {i : Nat} {S : ResS} {M : MemM} (hc : cfgOk c) (ht : 0 ≤ t ∧ t < c.th) (hs : 0 ≤ s ∧ s < 30) (I : RA c t s e f i S M) : RA c t s e f (i + 1) (resStep c (lns c).toNat c.th.toNat S M).1 (resStep c (lns c).toNat c.th.toNat S M).2 := by
 obtain ⟨hg, hS, hsl, hmg, hst⟩ := I
 obtain ⟨hg', hm'⟩ := resStep_good hc (n := (lns c).toNat) (nt := c.th.toNat) hg hmg
 have hc1 : 1 ≤ c.lo := by unfold cfgOk at hc; omega
 rcases hst with ⟨hi, hp, hx, hL⟩ | ⟨hi, hp, hpl, hL⟩ | ⟨hi, hp, hpl, hL⟩
 ·have hl := hL.lg 0 (by omega)
  have hold : (reLd c (lns c).toNat S M).2.old = 0 := by
   show (M.peek (lns c).toNat (logS c S.t S.next)).getD 0 = _
   rw [hS, hx]; rw [if_pos rfl] at hl; rw [show (0 : Int) = ((0 : Nat) : Int) from rfl, hl]; rfl
  have e1 : resStep c (lns c).toNat c.th.toNat S M = (⟨S.t, 1, S.slot, S.next + 1, S.next⟩, (reLd c (lns c).toNat S M).1) := by unfold resStep; rw [if_neg (by omega), if_pos hp]; unfold relook; rw [if_pos (by omega), if_pos hold]
  rw [e1] at hg' hm' ⊢
  exact ⟨hg', hS, hsl, hm', .inr (.inl ⟨by omega, rfl, hx, hL.load⟩)⟩
 ·have e1 : resStep c (lns c).toNat c.th.toNat S M = (⟨S.t, 2, S.slot, S.next, S.place⟩, (M.accS (lns c).toNat S.t (logS c S.t S.place) (entryI S.slot (-1))).1) := by unfold resStep; rw [if_neg (by omega), if_neg (by omega), if_pos hp]
  rw [e1] at hg' hm' ⊢
  refine ⟨hg', hS, hsl, hm', .inr (.inr ⟨by omega, .inl ⟨rfl, by omega⟩, hpl, ?_⟩)⟩
  show AL c t (s + 1) e f (M.accS (lns c).toNat S.t (logS c S.t S.place) (entryI S.slot (-1))).1
  rw [hsl, entry_none (by omega), hpl, hS]
  exact hL.putl hc ht (by unfold isW; omega)
 ·by_cases h5 : S.pc = 5
  ·have e1 : resStep c (lns c).toNat c.th.toNat S M = (S, M) := by unfold resStep; rw [if_pos h5]
   rw [e1]
   exact ⟨hg, hS, hsl, hmg, .inr (.inr ⟨by omega, .inr (.inr ⟨h5, by omega⟩), hpl, hL⟩)⟩
  ·have e1 : resStep c (lns c).toNat c.th.toNat S M = (⟨S.t, if S.pc = 2 then 3 else 5, S.slot, S.next, S.place⟩, elast c (lns c).toNat c.th.toNat S.t S.pc S.place M) := by unfold resStep; rw [if_neg h5, if_neg (by omega), if_neg (by omega)]
   rw [e1] at hg' hm' ⊢
   refine ⟨hg', hS, hsl, hm', .inr (.inr ⟨by omega, ?_, hpl, hL.elast⟩)⟩
   show (if S.pc = 2 then (3 : Int) else 5) = 2 ∧ _ ∨ (if S.pc = 2 then (3 : Int) else 5) = 3 ∧ _ ∨ (if S.pc = 2 then (3 : Int) else 5) = 5 ∧ _
   split
   ·exact .inr (.inl ⟨rfl, by omega⟩)
   ·exact .inr (.inr ⟨rfl, by omega⟩)
theorem RA.start {c : Cfg} {t s e f : Int} {M : MemM} (ht : isInt t) (hs : isInt s) (h : AL c t 0 e f M) : RA c t s e f 0 ⟨t, 0, s, 0, 0⟩ M := ⟨resInit ht hs, rfl, rfl, h.good, .inl ⟨rfl, rfl, rfl, h⟩⟩
theorem RA.done {c : Cfg} {t s e f : Int} {i : Nat} {S : ResS} {M : MemM} (hc : cfgOk c) (hi : 5 ≤ i) (I : RA c t s e f i S M) : S.done = true ∧ rePlace c S = 0 ∧ AL c t (s + 1) e f M := by
 unfold cfgOk at hc
 rcases I.st with h | h | ⟨h1, h2, h3, h4⟩
 ·omega
 ·omega
 ·have hp : S.pc = 5 := by omega
  exact ⟨decide_eq_true hp, by unfold rePlace; rw [if_pos ⟨hp, by omega⟩]; exact h3, h4⟩
/-- a Stamp alone, behind i steps -/
structure SA (c : Cfg) (tt s x e f : Int) (i : Nat) (S : StaS) (M : MemM) : Prop where
 good : S.good
 t : S.t = tt
 slot : S.slot = s
 place : S.place = 0
 mg : M.good
 st : (i = 0 ∧ S.pc = 0 ∧ AL c tt x e f M) ∨ (i = 1 ∧ S.pc = 1 ∧ S.now = e ∧ AL c tt x e f M) ∨ (2 ≤ i ∧ (S.pc = 2 ∧ i = 2 ∨ S.pc = 3 ∧ i = 3 ∨ S.pc = 5 ∧ 4 ≤ i) ∧ AL c tt (entryI s e) e f M)
theorem SA.next {c : Cfg} {t s x e f : Int} {i : Nat} {S : StaS} {M : MemM} (hc : cfgOk c) (ht : 0 ≤ t ∧ t < c.th) (I : SA c t s x e f i S M) : SA c t s x e f (i + 1) (staStep c (lns c).toNat c.th.toNat S M).1 (staStep c (lns c).toNat c.th.toNat S M).2 := by
 obtain ⟨hg, hS, hsl, hpl, hmg, hst⟩ := I
 obtain ⟨hg', hm'⟩ := staStep_good (c := c) (n := (lns c).toNat) (nt := c.th.toNat) hg hmg
 rcases hst with ⟨hi, hp, hL⟩ | ⟨hi, hp, hn, hL⟩ | ⟨hi, hp, hL⟩
 ·have e1 : staStep c (lns c).toNat c.th.toNat S M = (⟨S.t, 1, S.place, S.slot, (M.accL (lns c).toNat S.t (-1)).2.old⟩, (M.accL (lns c).toNat S.t (-1)).1) := by unfold staStep; rw [if_neg (by omega), if_pos hp]
  rw [e1] at hg' hm' ⊢
  refine ⟨hg', hS, hsl, hpl, hm', .inr (.inl ⟨by omega, rfl, ?_, hL.load⟩)⟩
  show (M.peek (lns c).toNat (-1)).getD 0 = e
  rw [hL.ep]; rfl
 ·have e1 : staStep c (lns c).toNat c.th.toNat S M = (⟨S.t, 2, S.place, S.slot, S.now⟩, (M.accS (lns c).toNat S.t (logS c S.t S.place) (entryI S.slot S.now)).1) := by unfold staStep; rw [if_neg (by omega), if_neg (by omega), if_pos hp]
  rw [e1] at hg' hm' ⊢
  refine ⟨hg', hS, hsl, hpl, hm', .inr (.inr ⟨by omega, .inl ⟨rfl, by omega⟩, ?_⟩)⟩
  show AL c t (entryI s e) e f (M.accS (lns c).toNat S.t (logS c S.t S.place) (entryI S.slot S.now)).1
  rw [hsl, hn, hpl, hS]
  exact hL.putl hc ht (entryI_w _ _)
 ·by_cases h5 : S.pc = 5
  ·have e1 : staStep c (lns c).toNat c.th.toNat S M = (S, M) := by unfold staStep; rw [if_pos h5]
   rw [e1]
   exact ⟨hg, hS, hsl, hpl, hmg, .inr (.inr ⟨by omega, .inr (.inr ⟨h5, by omega⟩), hL⟩)⟩
  ·have e1 : staStep c (lns c).toNat c.th.toNat S M = (⟨S.t, if S.pc = 2 then 3 else 5, S.place, S.slot, S.now⟩, elast c (lns c).toNat c.th.toNat S.t S.pc S.place M) := by unfold staStep; rw [if_neg h5, if_neg (by omega), if_neg (by omega)]
   rw [e1] at hg' hm' ⊢
   refine ⟨hg', hS, hsl, hpl, hm', .inr (.inr ⟨by omega, ?_, hL.elast⟩)⟩
   show (if S.pc = 2 then (3 : Int) else 5) = 2 ∧ _ ∨ (if S.pc = 2 then (3 : Int) else 5) = 3 ∧ _ ∨ (if S.pc = 2 then (3 : Int) else 5) = 5 ∧ _
   split
   ·exact .inr (.inl ⟨rfl, by omega⟩)
   ·exact .inr (.inr ⟨rfl, by omega⟩)
theorem staInit {t p s : Int} (ht : isInt t) (hp : isInt p) (hs : isInt s) : StaS.good ⟨t, 0, p, s, 0⟩ := ⟨ht, (by decide : (0 : Int) ≤ 0 ∧ (0 : Int) ≤ 5 ∧ ¬ (0 : Int) = 4), hp, hs, (by show isW 0; unfold isW; omega)⟩
theorem SA.start {c : Cfg} {t s x e f p : Int} {M : MemM} (ht : isInt t) (hs : isInt s) (hp : p = 0) (h : AL c t x e f M) : SA c t s x e f 0 ⟨t, 0, p, s, 0⟩ M := ⟨staInit ht (by omega) hs, rfl, rfl, hp, h.good, .inl ⟨rfl, rfl, h⟩⟩
theorem SA.done {c : Cfg} {t s x e f : Int} {i : Nat} {S : StaS} {M : MemM} (hc : cfgOk c) (hs : 0 ≤ s ∧ s < 30) (he : 0 ≤ e ∧ e ≤ 255) (hi : 5 ≤ i) (I : SA c t s x e f i S M) : S.pc = 5 ∧ AL c t (entryI s e) e f M ∧ slotsT c (lns c).toNat M t c.lo.toNat = [s] := by
 obtain ⟨hx1, hx2, hx3⟩ := entry_rd (s := s) (e := e) (by omega) (by omega)
 unfold cfgOk at hc
 rcases I.st with h | h | ⟨h1, h2, h3⟩
 ·omega
 ·omega
 ·have hsl := h3.slots c.lo.toNat (by omega)
  rw [if_neg (by omega), if_neg hx3, hx1] at hsl
  exact ⟨by omega, h3, hsl⟩
/-- a Reclaim alone, behind i steps; d: so many epochs -/
structure CA (c : Cfg) (tt s e d : Int) (i : Nat) (S : RecS) (M : MemM) : Prop where
 good : S.good c
 t : S.t = tt
 mg : M.good
 st : (d < 2 ∧ S.count = 0 ∧ AL c tt (entryI s e) (e + d) 0 M ∧ (i = 0 ∧ S.pc = 0 ∧ S.next = 0 ∨ S.pc = 1 ∧ S.now = e + d ∧ (i : Int) = S.next + 1 ∧ S.next < c.lo ∨ S.pc = 5 ∧ c.lo + 1 ≤ i))
  ∨ (2 ≤ d ∧ S.count = 0 ∧ AL c tt (entryI s e) (e + d) 0 M ∧ (i = 0 ∧ S.pc = 0 ∧ S.next = 0 ∨ i = 1 ∧ S.pc = 1 ∧ S.now = e + d ∧ S.next = 0 ∨ i = 2 ∧ S.pc = 2 ∧ S.now = e + d ∧ S.next = 1 ∧ S.slot = s))
  ∨ (2 ≤ d ∧ S.count = 0 ∧ AL c tt 0 (e + d) 0 M ∧ S.pc = 4 ∧ S.now = e + d ∧ S.next = 1 ∧ S.push.t = tt ∧ S.push.slot = s ∧ (i = 3 ∧ S.push.pc = 0 ∨ i = 4 ∧ S.push.pc = 1 ∧ S.push.top = 0 ∨ i = 5 ∧ S.push.pc = 2 ∧ S.push.top = 0 ∧ M.peek (lns c).toNat (aftS c s) = some (topI (-1) 0)))
  ∨ (2 ≤ d ∧ S.count = 1 ∧ AL c tt 0 (e + d) (newerI s 0) M ∧ M.peek (lns c).toNat (aftS c s) = some (topI (-1) 0) ∧ (S.pc = 1 ∧ S.now = e + d ∧ (i : Int) = S.next + 5 ∧ 1 ≤ S.next ∧ S.next < c.lo ∨ S.pc = 5 ∧ c.lo + 5 ≤ i))
theorem CA.next {c : Cfg} {t s e d : Int} {i : Nat} {S : RecS} {M : MemM} (hc : cfgOk c) (ht : 0 ≤ t ∧ t < c.th) (hs : 0 ≤ s ∧ s < c.sl) (hs3 : c.sl ≤ 30) (he : 0 ≤ e ∧ e ≤ 255) (hd : 0 ≤ d ∧ d ≤ 255) (I : CA c t s e d i S M) : CA c t s e d (i + 1) (recStep c (lns c).toNat S M).1 (recStep c (lns c).toNat S M).2 := by
 obtain ⟨hg, hS, hmg, hst⟩ := I
 obtain ⟨hg', hm'⟩ := recStep_good hc (n := (lns c).toNat) hg hmg
 have hc1 : 1 ≤ c.lo := by unfold cfgOk at hc; omega
 obtain ⟨hx1, hx2, hx3⟩ := entry_rd (s := s) (e := e) (by omega) (by omega)
 have old0 : ∀ w : Int, ¬ recOld w 0 := fun w h => h.1 rfl
 by_cases h5 : S.pc = 5
 ·have e1 : recStep c (lns c).toNat S M = (S, M) := by unfold recStep; rw [if_pos h5]
  rw [e1]
  refine ⟨hg, hS, hmg, ?_⟩
  rcases hst with ⟨a1, a2, a3, a4⟩ | ⟨a1, a2, a3, a4⟩ | ⟨a1, a2, a3, a4, a5⟩ | ⟨a1, a2, a3, a4, a5⟩
  ·exact .inl ⟨a1, a2, a3, .inr (.inr ⟨h5, by omega⟩)⟩
  ·omega
  ·omega
  ·exact .inr (.inr (.inr ⟨a1, a2, a3, a4, .inr ⟨h5, by omega⟩⟩))
 by_cases h0 : S.pc = 0
 ·have e1 : recStep c (lns c).toNat S M = (⟨S.t, 1, (M.accL (lns c).toNat S.t (-1)).2.old, S.next, S.slot, S.count, S.push⟩, (M.accL (lns c).toNat S.t (-1)).1) := by unfold recStep; rw [if_neg h5, if_pos h0]
  have hn : ∀ x f, AL c t x (e + d) f M → (M.accL (lns c).toNat S.t (-1)).2.old = e + d := fun x f h => by
   show (M.peek (lns c).toNat (-1)).getD 0 = _
   rw [h.ep]; rfl
  rw [e1] at hg' hm' ⊢
  refine ⟨hg', hS, hm', ?_⟩
  rcases hst with ⟨a1, a2, a3, a4⟩ | ⟨a1, a2, a3, a4⟩ | ⟨a1, a2, a3, a4, a5⟩ | ⟨a1, a2, a3, a4, a5⟩
  ·exact .inl ⟨a1, a2, a3.load, .inr (.inl ⟨rfl, hn _ _ a3, by show ((i + 1 : Nat) : Int) = S.next + 1; omega, by show S.next < c.lo; omega⟩)⟩
  ·exact .inr (.inl ⟨a1, a2, a3.load, .inr (.inl ⟨by omega, rfl, hn _ _ a3, by show S.next = 0; omega⟩)⟩)
  ·omega
  ·omega
 by_cases h1 : S.pc = 1
 ·have e1 : recStep c (lns c).toNat S M = recLook c (lns c).toNat S M := by unfold recStep; rw [if_neg h5, if_neg h0, if_pos h1]
  have hnx := hg.2.2.2.1
  have hold : ∀ x f, AL c t x (e + d) f M → S.next < c.lo → (recLd c (lns c).toNat S M).2.old = if S.next = 0 then x else 0 := fun x f h hl => by
   show (M.peek (lns c).toNat (logS c S.t S.next)).getD 0 = _
   have := h.lg S.next.toNat (by omega)
   rw [show ((S.next.toNat : Nat) : Int) = S.next by omega] at this
   rw [hS, this]
   show (if S.next.toNat = 0 then x else 0) = _
   by_cases hz : S.next = 0
   ·rw [if_pos hz, if_pos (by omega)]
   ·rw [if_neg hz, if_neg (by omega)]
  have hno : ¬ recOld S.now (recLd c (lns c).toNat S M).2.old → recLook c (lns c).toNat S M = (⟨S.t, onPc c (S.next + 1), S.now, S.next + 1, S.slot, S.count, S.push⟩, (recLd c (lns c).toNat S M).1) := fun h => if_neg h
  have hpc : onPc c (S.next + 1) = 1 ∧ S.next + 1 < c.lo ∨ onPc c (S.next + 1) = 5 ∧ c.lo ≤ S.next + 1 := by
   unfold onPc; split
   ·exact .inl ⟨rfl, by assumption⟩
   ·exact .inr ⟨rfl, by omega⟩
  rw [e1] at hg' hm' ⊢
  rcases hst with ⟨a1, a2, a3, a4⟩ | ⟨a1, a2, a3, a4⟩ | ⟨a1, a2, a3, a4, a5⟩ | ⟨a1, a2, a3, a4, a5⟩
  ·have hl : S.next < c.lo := by omega
   rw [hno (by
    rw [hold _ _ a3 hl]
    split
    ·intro h; have := h.2.2.2; rw [hx2] at this; omega
    ·exact old0 _)] at hg' hm' ⊢
   refine ⟨hg', hS, hm', .inl ⟨a1, a2, a3.load, .inr ?_⟩⟩
   rcases hpc with h | h
   ·exact .inl ⟨h.1, by show S.now = _; omega, by show ((i + 1 : Nat) : Int) = S.next + 1 + 1; omega, h.2⟩
   ·exact .inr ⟨h.1, by omega⟩
  ·have hl : S.next < c.lo := by omega
   have ho : recOld S.now (recLd c (lns c).toNat S M).2.old := by
    rw [hold _ _ a3 hl, if_pos (by omega)]
    exact ⟨by omega, by omega, by omega, by omega⟩
   have e2 : recLook c (lns c).toNat S M = (⟨S.t, 2, S.now, S.next + 1, toI (recLd c (lns c).toNat S M).2.old, S.count, S.push⟩, (recLd c (lns c).toNat S M).1) := if_pos ho
   rw [e2] at hg' hm' ⊢
   refine ⟨hg', hS, hm', .inr (.inl ⟨a1, a2, a3.load, .inr (.inr ⟨by omega, rfl, by show S.now = _; omega, by show S.next + 1 = 1; omega, ?_⟩)⟩)⟩
   show toI (recLd c (lns c).toNat S M).2.old = s
   rw [hold _ _ a3 hl, if_pos (by omega)]; exact hx1
  ·omega
  ·have hl : S.next < c.lo := by omega
   rw [hno (by rw [hold _ _ a3 hl, if_neg (by omega)]; exact old0 _)] at hg' hm' ⊢
   refine ⟨hg', hS, hm', .inr (.inr (.inr ⟨a1, a2, a3.load, a4, ?_⟩))⟩
   rcases hpc with h | h
   ·exact .inl ⟨h.1, by show S.now = _; omega, by show ((i + 1 : Nat) : Int) = S.next + 1 + 5; omega, by show 1 ≤ S.next + 1; omega, h.2⟩
   ·exact .inr ⟨h.1, by omega⟩
 by_cases h2 : S.pc = 2
 ·have e1 : recStep c (lns c).toNat S M = (⟨S.t, 4, S.now, S.next, S.slot, S.count, ⟨S.t, 0, 0, S.slot⟩⟩, (M.accS (lns c).toNat S.t (logS c S.t (S.next - 1)) 0).1) := by unfold recStep; rw [if_neg h5, if_neg h0, if_neg h1, if_pos h2]
  rw [e1] at hg' hm' ⊢
  refine ⟨hg', hS, hm', ?_⟩
  rcases hst with ⟨a1, a2, a3, a4⟩ | ⟨a1, a2, a3, a4⟩ | ⟨a1, a2, a3, a4, a5⟩ | ⟨a1, a2, a3, a4, a5⟩
  ·omega
  ·refine .inr (.inr (.inl ⟨a1, a2, ?_, rfl, by show S.now = _; omega, by show S.next = 1; omega, hS, by show S.slot = s; omega, .inl ⟨by omega, rfl⟩⟩))
   show AL c t 0 (e + d) 0 (M.accS (lns c).toNat S.t (logS c S.t (S.next - 1)) 0).1
   rw [hS, show S.next - 1 = 0 by omega]
   exact a3.putl hc ht (by unfold isW; omega)
  ·omega
  ·omega
 ·have e1 : recStep c (lns c).toNat S M = (recPush c S (pushStep c (lns c).toNat S.push M).1, (pushStep c (lns c).toNat S.push M).2) := by unfold recStep; rw [if_neg h5, if_neg h0, if_neg h1, if_neg h2]
  rw [e1] at hg' hm' ⊢
  rcases hst with ⟨a1, a2, a3, a4⟩ | ⟨a1, a2, a3, a4⟩ | ⟨a1, a2, a3, a4, a5, a6, a7, a8, a9⟩ | ⟨a1, a2, a3, a4, a5⟩
  ·omega
  ·omega
  ·rcases a9 with ⟨b1, b2⟩ | ⟨b1, b2, b3⟩ | ⟨b1, b2, b3, b4⟩
   ·have e2 : pushStep c (lns c).toNat S.push M = (⟨S.push.t, 1, (M.accL (lns c).toNat S.push.t (-2)).2.old, S.push.slot⟩, (M.accL (lns c).toNat S.push.t (-2)).1) := by unfold pushStep; rw [if_neg (by omega), if_pos b2]
    have e3 : recPush c S (pushStep c (lns c).toNat S.push M).1 = ⟨S.t, S.pc, S.now, S.next, S.slot, S.count, (pushStep c (lns c).toNat S.push M).1⟩ := by unfold recPush; rw [if_neg (by rw [e2]; show ¬ (1 : Int) = 3; decide)]
    rw [e3] at hg' ⊢
    refine ⟨hg', hS, hm', .inr (.inr (.inl ⟨a1, a2, by rw [e2]; exact a3.load, a4, a5, a6, by rw [e2]; exact a7, by rw [e2]; exact a8, .inr (.inl ⟨by omega, by rw [e2], ?_⟩)⟩))⟩
    rw [e2]
    show (M.peek (lns c).toNat (-2)).getD 0 = 0
    rw [a3.tp]; rfl
   ·have e2 : pushStep c (lns c).toNat S.push M = (⟨S.push.t, 2, S.push.top, S.push.slot⟩, (M.accS (lns c).toNat S.push.t (aftS c S.push.slot) (topI (toI S.push.top) 0)).1) := by unfold pushStep; rw [if_neg (by omega), if_neg (by omega), if_pos b2]
    have e3 : recPush c S (pushStep c (lns c).toNat S.push M).1 = ⟨S.t, S.pc, S.now, S.next, S.slot, S.count, (pushStep c (lns c).toNat S.push M).1⟩ := by unfold recPush; rw [if_neg (by rw [e2]; show ¬ (2 : Int) = 3; decide)]
    rw [e3] at hg' ⊢
    rw [b3, a8, show toI 0 = -1 from rfl] at e2
    obtain ⟨c1, c2⟩ := a3.puta (th := S.push.t) (w := topI (-1) 0) hc ht hs (topI_w (by omega))
    exact ⟨hg', hS, hm', .inr (.inr (.inl ⟨a1, a2, by rw [e2]; exact c1, a4, a5, a6, by rw [e2]; exact a7, by rw [e2], .inr (.inr ⟨by omega, by rw [e2], by rw [e2], by rw [e2]; exact c2⟩)⟩))⟩
   ·obtain ⟨c1, c2, c3⟩ := a3.swap (th := S.push.t) (w := newerI s 0) hc ht (newerI_w _ _)
    have e2 : pushStep c (lns c).toNat S.push M = (⟨S.push.t, 3, S.push.top, S.push.slot⟩, (M.accW (lns c).toNat S.push.t (-2) 0 (newerI s 0)).1) := by
     unfold pushStep; rw [if_neg (by omega), if_neg (by omega), if_neg (by omega), b3, a8, if_pos c2]
    have e3 : recPush c S (pushStep c (lns c).toNat S.push M).1 = ⟨S.t, onPc c S.next, S.now, S.next, S.slot, S.count + 1, (pushStep c (lns c).toNat S.push M).1⟩ := by unfold recPush; rw [if_pos (by rw [e2])]
    rw [e3] at hg' ⊢
    refine ⟨hg', hS, hm', .inr (.inr (.inr ⟨a1, by show S.count + 1 = 1; omega, by rw [e2]; exact c1, by rw [e2]; exact (c3 s hs).trans b4, ?_⟩))⟩
    show onPc c S.next = 1 ∧ S.now = _ ∧ ((i + 1 : Nat) : Int) = S.next + 5 ∧ 1 ≤ S.next ∧ S.next < c.lo ∨ onPc c S.next = 5 ∧ c.lo + 5 ≤ ((i + 1 : Nat) : Int)
    unfold onPc; split
    ·exact .inl ⟨rfl, a5, by omega, by omega, by omega⟩
    ·exact .inr ⟨rfl, by omega⟩
  ·omega
theorem CA.start {c : Cfg} {t s e d : Int} {M : MemM} (hc : cfgOk c) (ht : isInt t) (hd : 0 ≤ d) (h : AL c t (entryI s e) (e + d) 0 M) : CA c t s e d 0 ⟨t, 0, 0, 0, -1, 0, ⟨0, 0, 0, 0⟩⟩ M := by
 unfold cfgOk at hc
 refine ⟨⟨ht, by show isW 0; unfold isW; omega, by show isInt (-1); omega, by show (0 : Int) ≤ 0 ∧ (0 : Int) ≤ c.lo; omega, by show (0 : Int) ≤ 0 ∧ (0 : Int) ≤ 0; omega, .inl ⟨rfl, rfl⟩⟩, rfl, h.good, ?_⟩
 by_cases h2 : d < 2
 ·exact .inl ⟨h2, rfl, h, .inl ⟨rfl, rfl, rfl⟩⟩
 ·exact .inr (.inl ⟨by omega, rfl, h, .inl ⟨rfl, rfl, rfl⟩⟩)
theorem CA.done {c : Cfg} {t s e d : Int} {i : Nat} {S : RecS} {M : MemM} (hc : cfgOk c) (hlo : c.lo ≤ 8) (hs : 0 ≤ s ∧ s < c.sl) (hs3 : c.sl ≤ 30) (he : 0 ≤ e ∧ e ≤ 255) (hi : 30 ≤ i) (I : CA c t s e d i S M) :
  S.done = true ∧ (M.pass.length : Int) = 2 + c.th + c.sl ∧ (listG c (lns c).toNat M).2 = true ∧ (d < 2 → S.count = 0 ∧ (listG c (lns c).toNat M).1 = [] ∧ slotsT c (lns c).toNat M t c.lo.toNat = [s]) ∧ (2 ≤ d → S.count = 1 ∧ (listG c (lns c).toNat M).1 = [s] ∧ slotsT c (lns c).toNat M t c.lo.toNat = []) := by
 obtain ⟨hx1, hx2, hx3⟩ := entry_rd (s := s) (e := e) (by omega) (by omega)
 have hlo1 : 1 ≤ c.lo := by unfold cfgOk at hc; omega
 rcases I.st with ⟨a1, a2, a3, a4⟩ | ⟨a1, a2, a3, a4⟩ | ⟨a1, a2, a3, a4, a5, a6, a7, a8, a9⟩ | ⟨a1, a2, a3, a4, a5⟩
 ·have hL : listG c (lns c).toNat M = ([], true) := listG_chain (by show toI (topW _ M) = -1; unfold topW; rw [a3.tp]; rfl) List.nodup_nil (fun s h => by cases h)
  have hsl := a3.slots c.lo.toNat (by omega)
  rw [if_neg (by omega), if_neg hx3, hx1] at hsl
  exact ⟨decide_eq_true (show S.pc = 5 by omega), a3.pl, by rw [hL], fun _ => ⟨a2, by rw [hL], hsl⟩, fun h => by omega⟩
 ·omega
 ·omega
 ·have hL : listG c (lns c).toNat M = ([s], true) := by
   refine listG_chain ⟨?_, ?_⟩ (by simp) (fun x hx => by rw [List.mem_singleton.1 hx]; exact hs)
   ·unfold topW; rw [a3.tp]; exact toI_newer (by omega)
   ·show toI (aftW c _ M s) = -1
    unfold aftW; rw [a4]; exact toI_topI (by omega)
  have hsl := a3.slots c.lo.toNat (by omega)
  rw [if_neg (by omega), if_pos rfl] at hsl
  exact ⟨decide_eq_true (show S.pc = 5 by omega), a3.pl, by rw [hL], fun h => by omega, fun _ => ⟨a2, by rw [hL], hsl⟩⟩
theorem listB_ok (w0 : World) (b pm q n t : Nat) (c : Cfg) (hc : cfgOk c) (hf : c.sl ≤ 65536) (M : MemM) (gl l : K.Cs) (hgl : gl = layPt b c) (x : MemAt l pm q n t M) (hM : M.good) (hP : (M.pass.length : Int) = 2 + c.th + c.sl) (bb : Bool) (hb : (listG c n M).2 = bb) :
  K.GC Tryz.prog w0 17 #[.pointer (some ⟨b, 0, none⟩), .pointer (some ⟨pm, 0, none⟩)] [gl, l] (fun v post => ∃ r cc l2, v = .tuple #[.slice r (listG c n M).1.length cc, .bool bb] ∧ post = [gl, l, l2] ∧ K.OwnG l2 3 1 r (listG c n M).1.length cc ((listG c n M).1.flatMap cI64)) := by
 subst hb
 exact list_ok w0 b pm q n t c hc hf M gl l hgl x hM hP
end Go.Proofs.YtkmndplicmaahaaGreat
