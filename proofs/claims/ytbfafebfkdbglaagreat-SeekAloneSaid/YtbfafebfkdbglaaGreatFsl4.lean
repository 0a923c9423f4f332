/- The slots of a list; which lists may be. -/
import Derived.Test.YtbfafebfkdbglaaGreatFsa
import Derived.Test.YtbfafebfkdbglaaGreatKn
namespace Go.Proofs.YtbfafebfkdbglaaGreat
open Go.RowKit
set_option linter.unusedVariables false
attribute [local irreducible] K.KW K.RW K.DW K.OW K.QR K.KC
theorem nodup_le : ∀ (n : Nat) (l : List Int), l.Nodup → (∀ x ∈ l, 0 ≤ x ∧ x < n) → l.length ≤ n
 | 0, [], _, _ => Nat.le_refl 0
 | 0, x :: l, _, h => by have := h x (by simp); omega
 | n + 1, l, hn, h => by
  by_cases hm : (n : Int) ∈ l
  ·have h1 := List.length_erase_of_mem hm
   have h2 := nodup_le n (l.erase (n : Int)) (hn.erase _) (fun x hx => by
    have hx2 := (List.Nodup.mem_erase_iff hn).1 hx
    have := h x hx2.2
    have := hx2.1
    omega)
   omega
  ·have := nodup_le n l hn (fun x hx => by
    have := h x hx
    have : x ≠ (n : Int) := fun e => hm (e ▸ hx)
    omega)
   omega
/-- a list, gone through -/
def listN (sl : Int) (nx : Int → Int) : Nat → List Int → Int → List Int × Bool
 | 0, o, _ => (o, false)
 | k + 1, o, w => if toI w = -1 then (o, true) else if toI w ≥ sl ∨ toI w ∈ o then (o, false) else listN sl nx k (o ++ [toI w]) (nx (toI w))
section
variable {sl : Int} {nx : Int → Int} {m : Nat} {o : List Int} {w : Int}
theorem listN_end (h : 0 < m) (e : toI w = -1) : listN sl nx m o w = (o, true) := by
 cases m with
 | zero => omega
 | succ m => unfold listN; rw [if_pos e]
theorem listN_bad (h : 0 < m) (e : ¬ toI w = -1) (e2 : toI w ≥ sl ∨ toI w ∈ o) : listN sl nx m o w = (o, false) := by
 cases m with
 | zero => omega
 | succ m => unfold listN; rw [if_neg e, if_pos e2]
theorem listN_on {m' : Nat} (h : m = m' + 1) (e : ¬ toI w = -1) (e1 : ¬ toI w ≥ sl) (e2 : ¬ toI w ∈ o) : listN sl nx m o w = listN sl nx m' (o ++ [toI w]) (nx (toI w)) := by
 subst h
 rw [listN, if_neg e, if_neg (fun h => h.elim e1 e2)]
end
def slotsG (c : Cfg) (n : Nat) (M : MemM) (hd : Int) : List Int × Bool := listN c.sl (fun s => (M.peek n (nextS c s)).getD 0) (c.sl.toNat + 2) [] ((M.peek n hd).getD 0)
theorem listN_chain {sl : Int} {nx : Int → Int} : ∀ (L : List Int) (m : Nat) (o : List Int) (w : Int), ChainF nx w L → (o ++ L).Nodup → (∀ s ∈ L, 0 ≤ s ∧ s < sl) → L.length < m → listN sl nx m o w = (o ++ L, true)
 | [], m, o, w, h, _, _, hm => by rw [listN_end (by simpa using hm) h, List.append_nil]
 | s :: L, 0, o, w, _, _, _, hm => by simp at hm
 | s :: L, m + 1, o, w, h, hn, hr, hm => by
  have hs := hr s (by simp)
  have hno : ¬ s ∈ o := fun hx => (List.nodup_append.1 hn).2.2 s hx s (by simp) rfl
  rw [listN_on rfl (by rw [h.1]; omega) (by rw [h.1]; omega) (by rw [h.1]; exact hno), h.1]
  have := listN_chain L m (o ++ [s]) (nx s) h.2 (by simpa using hn) (fun x hx => hr x (by simp [hx])) (by simpa using hm)
  rw [this, List.append_assoc]; rfl
theorem toI_ge (w : Int) : -1 ≤ toI w := by unfold toI; omega
theorem nodup_snoc {o : List Int} {x : Int} (h : o.Nodup) (hx : ¬ x ∈ o) : (o ++ [x]).Nodup := by
 rw [List.nodup_append]
 exact ⟨h, by simp, fun a ha b hb e => hx (by rw [List.mem_singleton.1 hb] at e; exact e ▸ ha)⟩
theorem in_snoc {o : List Int} {x s : Int} (h : ∀ y ∈ o, 0 ≤ y ∧ y < s) (hx : 0 ≤ x ∧ x < s) : ∀ y ∈ o ++ [x], 0 ≤ y ∧ y < s := fun y hy => by
 rcases List.mem_append.1 hy with hy | hy
 ·exact h y hy
 ·rw [List.mem_singleton.1 hy]; exact hx
theorem not_mem_snoc {xs : List Int} {x : Int} {k : Nat} (h : ∀ q, q < k → ¬ xs.getD q 0 = x) (hk : xs.length ≤ k) : ¬ x ∈ xs := fun hm => by
 obtain ⟨i, hi, e⟩ := List.mem_iff_getElem.1 hm
 exact h i (by omega) (by simpa [hi] using e)
theorem mem_getDI {xs : List Int} {x : Int} {k : Nat} (hk : k < xs.length) (e : xs.getD k 0 = x) : x ∈ xs := by rw [← e]; simp [hk]
theorem none_succI {L : List Int} {x : Int} {i : Nat} (h : ∀ j, j < i → ¬ L.getD j 0 = x) (e : ¬ L.getD i 0 = x) : ∀ j, j < i + 1 → ¬ L.getD j 0 = x := fun j hj => by
 rcases Nat.lt_or_ge j i with h' | h'
 ·exact h j h'
 ·rw [show j = i by omega]; exact e
theorem mPeekD_ok (w0 : World) (p q n t : Nat) (M : MemM) (l : K.Cs) (x : MemAt l p q n t M) (i : Int) (hi : isInt i) (h : 0 ≤ i ∧ i < (n : Int) * 8) : K.GC Tryz.prog w0 36 #[.pointer (some ⟨p, 0, none⟩), .int .i64 i] [l] (fun v post => v = .tuple #[.int .u64 ((M.peek n i).getD 0), .bool true] ∧ post = [l]) := by
 refine (mPeek_ok w0 p q n t M l x i hi).mono ?_
 rintro v post ⟨rfl, ⟨y, rfl, e⟩ | ⟨rfl, e⟩⟩
 ·rw [e]; exact ⟨rfl, rfl⟩
 ·rw [peek_dev h] at e; cases e
set_option maxHeartbeats 1000000 in
set_option maxRecDepth 100000 in
theorem index_ok (w0 : World) (a : Option Addr) (cap : Nat) (xs : List Int) (x : Int) (hm : xs.length ≤ 1000000) (gx : K.Cs) (hx : ∀ w, K.Sat w0 [gx] w → K.RowE w a xs.length 1 (fun i => cI64 (xs.getD i 0))) :
  K.GC Tryz.prog w0 122 #[.slice a xs.length cap, .int .i64 x] [gx] (fun v post => post = [gx] ∧ ((∃ k : Nat, v = .int .i64 k ∧ k < xs.length ∧ x ∈ xs) ∨ (v = .int .i64 (-1) ∧ ¬ x ∈ xs))) := by
 refine K.GC.mk (n := 19) Tryz.func122 rfl rfl [.slice a xs.length cap, .int .i64 x] rfl rfl ?_
 intro fr w hS
 replace hS : K.Sat w0 [gx, fr] w := hS
 refine K.s (K.g (K.q [.int .i64 0] (K.z (K.t (K.s (K.s (K.g (K.q [.slice a xs.length cap] ?_))))))))
 refine K.a (K.QR.len (P := Tryz.prog) rfl rfl Tryz.underlying44) ?_
 refine K.q [.int .i64 0] (K.z (K.t ?_))
 refine K.KW.block ?_
 refine K.KW.loop (fun m_ F_ w_ => ∃ (k : Nat), m_ = xs.length - k ∧ K.Sl F_ [(0, .slice a xs.length cap), (1, .int .i64 x), (7, .int .i64 ((xs.length : Nat) : Int)), (8, .int .i64 ((k : Nat) : Int)), (19, undef)] ∧ k ≤ xs.length ∧ ((∀ q, q < k → ¬ xs.getD q 0 = x)) ∧ K.Sat w0 [gx, fr] w_) ((fun (k : Nat) => xs.length - k) 0) ?_ ?_
 ·
  exact ⟨0, rfl, ⟨by rfl, by rfl, by rfl, by rfl, by rfl, trivial⟩, (by omega), (fun q h => absurd h (by omega)), hS.pick [0, 1]⟩
 ·
  clear hS
  intro m_1 F_2 w hI
  obtain ⟨k, rfl, sl_3, p_4, hno, hS⟩ := hI
  rw [← K.Sl.puts sl_3]; clear sl_3
  refine K.s (K.g ?_)
  by_cases h_5 : (((k : Nat) : Int) : Int) < (((xs.length : Nat) : Int) : Int)
  ·
   refine K.y ((((k : Nat) : Int) : Int) < (((xs.length : Nat) : Int) : Int)) h_5 ?_
   refine K.z (K.t (K.s (K.h (K.k (K.t (K.s ?_))))))
   refine K.KW.block ?_
   refine K.s (K.g (K.q [.int .i64 ((k : Nat) : Int), .int .i64 ((k : Nat) : Int)] (K.z (K.t (K.s ?_)))))
   obtain ⟨b_6, of_7, rfl, _⟩ := (hx _ (hS.pick [0])).at_ (by omega)
   refine K.g (K.q [.int .i64 x, .slice (some ⟨b_6, of_7, none⟩) xs.length cap, .int .i64 ((k : Nat) : Int)] ?_)
   refine K.a (K.QR.ix (of_7 + k * 1) 1 rfl rfl rfl Tryz.underlying44 (by kernel_rfl) (by omega) (by first | (simp; done) | omega | (simp; omega))) ?_
   refine K.d (.int .i64 (xs.getD k 0)) ((hx _ (hS.pick [0])).ld k (by omega) 0 _ rfl) ?_
   by_cases h_8 : (x : Int) = (xs.getD k 0 : Int)
   ·
    refine K.ye (x : Int) (xs.getD k 0 : Int) h_8 ?_
    refine K.z (K.t (K.h (K.s (K.g (K.q [.int .i64 ((k : Nat) : Int), .int .i64 ((k : Nat) : Int)] (K.z (K.t (K.r ?_))))))))
    refine K.blk_ret ?_
    refine K.u (K.u ?_)
    refine K.blk_ret ?_
    refine K.u ?_
    refine ⟨.inr rfl, rfl, (.int .i64 ((k : Nat) : Int)), K.res1 rfl rfl, [gx], ?_, hS.pick [0, 1]⟩
    exact ⟨rfl, .inl ⟨k, rfl, by omega, mem_getDI (k := k) (by omega) (by omega)⟩⟩
   ·
    refine K.xe (x : Int) (xs.getD k 0 : Int) h_8 ?_
    refine K.z (K.t (K.f (K.k ?_)))
    refine K.blk_normal ?_
    refine K.t (K.g ?_)
    refine K.a (K.QR.n64 ((((k : Nat) : Int) : Int) + (1 : Int)) ((k + 1 : Nat) : Int) (by kernel_rfl) (by omega)) ?_
    refine K.q [.int .i64 ((k + 1 : Nat) : Int)] (K.z (K.t ?_))
    refine ⟨_, ?_, k + 1, rfl, ⟨by rfl, by rfl, by rfl, by rfl, by rfl, trivial⟩, (by omega), (none_succI hno (fun e => (by assumption : ¬ _) e.symm)), hS.pick [0, 1]⟩
    omega
  ·
   refine K.x ((((k : Nat) : Int) : Int) < (((xs.length : Nat) : Int) : Int)) h_5 ?_
   refine K.z (K.t (K.s (K.f ?_)))
   refine K.KW.exit ?_
   refine K.thn_exit ?_
   refine K.thn_exit ?_
   refine K.blk_hit ?_
   refine K.t (K.s (K.g (K.q [.int .i64 (-1)] (K.z (K.t (K.r ?_))))))
   refine ⟨.inr rfl, rfl, (.int .i64 (-1)), K.res1 rfl rfl, [gx], ?_, hS.pick [0, 1]⟩
   exact ⟨rfl, .inr ⟨rfl, not_mem_snoc hno (by omega)⟩⟩
set_option maxHeartbeats 1000000 in
set_option maxRecDepth 100000 in
theorem contains_ok (w0 : World) (a : Option Addr) (cap : Nat) (xs : List Int) (x : Int) (hm : xs.length ≤ 1000000) (gx : K.Cs) (hx : ∀ w, K.Sat w0 [gx] w → K.RowE w a xs.length 1 (fun i => cI64 (xs.getD i 0))) :
  K.GC Tryz.prog w0 72 #[.slice a xs.length cap, .int .i64 x] [gx] (fun v post => post = [gx] ∧ ((v = .bool true ∧ x ∈ xs) ∨ (v = .bool false ∧ ¬ x ∈ xs))) := by
 refine K.GC.mk (n := 9) Tryz.func72 rfl rfl [.slice a xs.length cap, .int .i64 x] rfl rfl ?_
 intro fr w hS
 replace hS : K.Sat w0 [gx, fr] w := hS
 refine K.s (K.g (K.q [.bool false] (K.z (K.t (K.s (K.g (K.q [.slice a xs.length cap, .int .i64 x] ?_)))))))
 refine K.l (K.OW.gcall hS [0] [1] [.slice a xs.length cap, .int .i64 x] (index_ok _ _ _ xs x (by first | omega | decide) _ hx) ?_)
 clear hS; rintro _ _ w ⟨rfl, (⟨k_1, rfl, h_2, h2_3⟩ | ⟨rfl, h_4⟩)⟩ hS
 ·
  replace hS : K.Sat w0 [gx, fr] w := hS
  refine K.y ((((k_1 : Nat) : Int) : Int) ≥ (0 : Int)) (by omega) ?_
  refine K.q [.bool true] (K.z (K.t (K.r ?_)))
  refine ⟨.inr rfl, rfl, (.bool true), K.res1 rfl rfl, [gx], ?_, hS.pick [0, 1]⟩
  exact ⟨rfl, .inl ⟨rfl, by assumption⟩⟩
 ·
  replace hS : K.Sat w0 [gx, fr] w := hS
  refine K.q [.bool false, .bool false] (K.z (K.t (K.r ?_)))
  refine ⟨.inr rfl, rfl, (.bool false), K.res1 rfl rfl, [gx], ?_, hS.pick [0, 1]⟩
  exact ⟨rfl, .inr ⟨rfl, by assumption⟩⟩
set_option maxHeartbeats 1000000 in
set_option maxRecDepth 100000 in
theorem sslots_ok (w0 : World) (b pm q n t : Nat) (c : Cfg) (hc : cfgOk c) (hf : c.sl ≤ 65536) (M : MemM) (gl l : K.Cs) (hgl : gl = layPt b c) (x : MemAt l pm q n t M) (hM : M.good) (hd : Int) (hh : 0 ≤ hd ∧ hd < (n : Int) * 8) (hn : n = (lns c).toNat) :
  K.GC Tryz.prog w0 17 #[.pointer (some ⟨b, 0, none⟩), .pointer (some ⟨pm, 0, none⟩), .int .i64 hd] [gl, l] (fun v post => ∃ r cc l2, v = .tuple #[.slice r (slotsG c n M hd).1.length cc, .bool (slotsG c n M hd).2] ∧ post = [gl, l, l2] ∧ K.OwnG l2 3 1 r (slotsG c n M hd).1.length cc ((slotsG c n M hd).1.flatMap cI64)) := by
 have hcc := hc
 unfold cfgOk at hcc
 have hlb := lay_bd hc
 have hnin : ∀ s : Int, 0 ≤ s ∧ s < c.sl → 0 ≤ nextS c s ∧ nextS c s < (n : Int) * 8 := fun s hs => by have := next_at hc hs; omega
 refine K.GC.mk (n := 51) Tryz.func17 rfl rfl [.pointer (some ⟨b, 0, none⟩), .pointer (some ⟨pm, 0, none⟩), .int .i64 hd] rfl rfl ?_
 intro fr w hS
 replace hS : K.Sat w0 [gl, l, fr] w := hS
 refine K.s (K.g (K.q [.slice none 0 0, .bool false] (K.z (K.t (K.s (K.g (K.q [.slice none 0 0] (K.z (K.t (K.s (K.g (K.q [.pointer (some ⟨pm, 0, none⟩), .int .i64 hd] ?_))))))))))))
 refine K.l (K.OW.gcall hS [1] [0, 2] [.pointer (some ⟨pm, 0, none⟩), .int .i64 hd] (mPeekD_ok _ _ _ _ _ _ _ x hd (by first | omega | exact next_int (by assumption) _) (by first | omega | exact hnin _ (by omega))) ?_)
 clear hS; rintro _ _ w ⟨rfl, rfl⟩ hS
 replace hS : K.Sat w0 [l, gl, fr] w := hS
 have hw_1 : isW ((M.peek n hd).getD 0) := peek0_W (by assumption)
 refine K.q [.tuple #[.int .u64 ((M.peek n hd).getD 0), .bool true], .int .u64 ((M.peek n hd).getD 0), .bool true, .int .u64 ((M.peek n hd).getD 0), .bool true] (K.z (K.t (K.s ?_)))
 refine K.KW.block ?_
 obtain ⟨z_2, hz_3⟩ : ∃ z : K.Cs, z = [] := ⟨_, rfl⟩
 replace hS : K.Sat w0 [z_2, l, gl, fr] w := hS.of (by simp [hz_3])
 have o_4 : K.OwnG z_2 3 1 none 0 0 [] := by rw [hz_3]; exact K.OwnG.nil _ _
 refine K.KW.loop (fun m_ F_ w_ => ∃ (o : List Int) (ww : Int) (q1 : Option Addr) (c1 : Nat) (o1 : K.Cs), m_ = c.sl.toNat + 2 - o.length ∧ K.Sl F_ [(0, .pointer (some ⟨b, 0, none⟩)), (1, .pointer (some ⟨pm, 0, none⟩)), (2, .int .i64 hd), (8, .slice q1 o.length c1), (9, .int .u64 ww), (10, .bool true), (51, undef)] ∧ slotsG c n M hd = listN c.sl (fun s => (M.peek n (nextS c s)).getD 0) (c.sl.toNat + 2 - o.length) o ww ∧ o.Nodup ∧ ((∀ y ∈ o, 0 ≤ y ∧ y < c.sl)) ∧ isW ww ∧ o.length ≤ c.sl.toNat ∧ K.OwnG o1 3 1 q1 o.length c1 ((o).flatMap cI64) ∧ K.Sat w0 [o1, l, gl, fr] w_) ((fun (o : List Int) (ww : Int) (q1 : Option Addr) (c1 : Nat) => c.sl.toNat + 2 - o.length) [] ((M.peek n hd).getD 0) none 0) ?_ ?_
 ·
  exact ⟨[], ((M.peek n hd).getD 0), none, 0, z_2, rfl, ⟨by rfl, by rfl, by rfl, by rfl, by rfl, by rfl, by rfl, trivial⟩, (by unfold slotsG; rfl), (List.nodup_nil), (fun y h => by cases h), (by assumption), (by exact Nat.zero_le _), o_4, hS.pick [0, 1, 2, 3]⟩
 ·
  clear hS
  intro m_5 F_6 w hI
  obtain ⟨o, ww, q1, c1, o1, rfl, sl_7, hlist, hnd, hin, p_8, p_9, x_10, hS⟩ := hI
  rw [← K.Sl.puts sl_7]; clear sl_7
  refine K.s (K.s (K.g (K.q [.bool true, .bool true, .int .u64 ww] ?_)))
  refine K.l (K.OW.gcall hS [] [0, 1, 2, 3] [.int .u64 ww] (to_ok _ ww (by first | assumption | exact rdWord_w (by assumption) | exact isL.w (by assumption) | exact linkI_w _ _ | (unfold isW; omega))) ?_)
  clear hS; rintro _ _ w ⟨rfl, rfl⟩ hS
  replace hS : K.Sat w0 [o1, l, gl, fr] w := hS
  have hi_11 : isInt (toI ww) := toI_int _
  by_cases h_12 : ((toI ww) : Int) = ((-1) : Int)
  ·
   refine K.xn ((toI ww) : Int) ((-1) : Int) h_12 ?_
   refine K.q [.bool false] (K.z (K.t (K.f ?_)))
   refine K.KW.exit ?_
   refine K.thn_exit ?_
   refine K.thn_exit ?_
   refine K.blk_hit ?_
   refine K.t (K.s (K.g (K.q [.slice q1 o.length c1, .bool true, .slice q1 o.length c1, .bool true] (K.z (K.t (K.r ?_))))))
   have e : slotsG c n M hd = (o, true) := hlist.trans (listN_end (by omega) (by assumption))
   refine ⟨.inr rfl, rfl, (.tuple #[.slice q1 o.length c1, .bool true]), K.res2 rfl rfl rfl, [gl, l, o1], ?_, hS.pick [2, 1, 0, 3]⟩
   exact ⟨_, _, _, by rw [e], rfl, by rw [e]; exact x_10⟩
  ·
   refine K.yn ((toI ww) : Int) ((-1) : Int) h_12 ?_
   refine K.q [.bool true] (K.z (K.t (K.h (K.k (K.t ?_)))))
   refine K.KW.block ?_
   refine K.s (K.g (K.q [.int .u64 ww] ?_))
   refine K.l (K.OW.gcall hS [] [0, 1, 2, 3] [.int .u64 ww] (to_ok _ ww (by first | assumption | exact rdWord_w (by assumption) | exact isL.w (by assumption) | exact linkI_w _ _ | (unfold isW; omega))) ?_)
   clear hS; rintro _ _ w ⟨rfl, rfl⟩ hS
   replace hS : K.Sat w0 [o1, l, gl, fr] w := hS
   have hi_13 : isInt (toI ww) := toI_int _
   refine K.q [.int .i64 (toI ww)] (K.z (K.t (K.s (K.s ?_))))
   have hge := toI_ge ww
   refine K.g (K.q [.int .i64 (toI ww), .pointer (some ⟨b, 0, none⟩)] ?_)
   refine K.l (K.OW.kcall hS [.pointer (some ⟨b, 0, none⟩)] (lConfig _ c  _ (by assumption) (hS.blk 2 rfl hgl)) ?_)
   rintro _ w ⟨rfl, c_14⟩
   replace hS := hS.no c_14
   refine K.q [.int .i64 c.sl] ?_
   by_cases h_15 : ((toI ww) : Int) ≥ (c.sl : Int)
   ·
    refine K.y (((toI ww) : Int) ≥ (c.sl : Int)) h_15 ?_
    refine K.q [.bool true] (K.n_ (K.n_ (K.n_ (K.q [.bool true] (K.z (K.t (K.h (K.s (K.g (K.q [.slice q1 o.length c1, .slice q1 o.length c1, .bool false] (K.z (K.t (K.r (K.u ?_))))))))))))))
    refine K.blk_ret ?_
    refine K.u ?_
    refine K.blk_ret ?_
    refine K.u ?_
    have e : slotsG c n M hd = (o, false) := hlist.trans (listN_bad (by omega) (by assumption) (by first | exact .inl (by omega) | exact .inr (by assumption)))
    refine ⟨.inr rfl, rfl, (.tuple #[.slice q1 o.length c1, .bool false]), K.res2 rfl rfl rfl, [gl, l, o1], ?_, hS.pick [2, 1, 0, 3]⟩
    exact ⟨_, _, _, by rw [e], rfl, by rw [e]; exact x_10⟩
   ·
    refine K.x (((toI ww) : Int) ≥ (c.sl : Int)) h_15 ?_
    refine K.q [.bool false, .slice q1 o.length c1, .int .i64 (toI ww)] ?_
    refine K.l (K.OW.gcall hS [0] [1, 2, 3] [.slice q1 o.length c1, .int .i64 (toI ww)] (contains_ok _ _ _ o (toI ww) (by first | omega | decide) _ (fun w h => K.RowE.len (K.Own.rowE 0 (h.ownr 0 rfl x_10) rfl (fun _ => rfl)) rfl)) ?_)
    clear hS; rintro _ _ w ⟨rfl, (⟨rfl, h_16⟩ | ⟨rfl, h_17⟩)⟩ hS
    ·
     replace hS : K.Sat w0 [o1, l, gl, fr] w := hS
     refine K.q [.bool true] (K.z (K.t (K.h (K.s (K.g (K.q [.slice q1 o.length c1, .slice q1 o.length c1, .bool false] (K.z (K.t (K.r (K.u ?_))))))))))
     refine K.blk_ret ?_
     refine K.u ?_
     refine K.blk_ret ?_
     refine K.u ?_
     have e : slotsG c n M hd = (o, false) := hlist.trans (listN_bad (by omega) (by assumption) (by first | exact .inl (by omega) | exact .inr (by assumption)))
     refine ⟨.inr rfl, rfl, (.tuple #[.slice q1 o.length c1, .bool false]), K.res2 rfl rfl rfl, [gl, l, o1], ?_, hS.pick [2, 1, 0, 3]⟩
     exact ⟨_, _, _, by rw [e], rfl, by rw [e]; exact x_10⟩
    ·
     replace hS : K.Sat w0 [o1, l, gl, fr] w := hS
     refine K.q [.bool false] (K.z (K.t (K.f (K.k (K.t (K.s (K.g (K.q [.slice q1 o.length c1, .int .i64 (toI ww)] ?_))))))))
     refine K.l (K.OW.gbs [(0, .int .i64 (toI ww))] [.int .i64 (toI ww)] hS (fun w => K.bs_run (P := Tryz.prog) w 44 3 1 _ _ Tryz.underlying44 (by kernel_rfl)) ?_)
     clear hS; intro w r_18 g_19 hg_20 hS
     refine K.l (K.OW.gapp (P := Tryz.prog) (xs := (o).flatMap cI64) (z := .int .i64 0) (size := 1) (bytes := 8) 1 [.int .i64 (toI ww)] hS x_10 ?_ (fun j u hj => (by rw [Nat.zero_add]; exact (hS.blk 0 rfl hg_20).cell hj)) (K.one_cells (by rfl)) (by rfl) Tryz.underlying44 (by kernel_rfl) rfl (by decide) (by unfold maxLen; omega) (by omega))
     clear hS; intro a_21 cap_22 w l_23 o_24 hS
     have ln_25 : ((o ++ [((toI ww) : Int)])).length = o.length + 1 := by rw [List.length_append]; rfl
     have o_24c := K.OwnG.cast (xs' := ((o ++ [((toI ww) : Int)])).flatMap cI64) o_24 rfl (K.fl_snoc cI64 o _ rfl)
     replace hS : K.Sat w0 [g_19, l_23, l, gl, fr] w := hS
     refine K.q [.slice a_21 (o.length + 1) cap_22] (K.z (K.t (K.g (K.q [.pointer (some ⟨pm, 0, none⟩), .pointer (some ⟨b, 0, none⟩), .int .i64 (toI ww)] ?_))))
     refine K.l (K.OW.kcall hS [.pointer (some ⟨b, 0, none⟩), .int .i64 (toI ww)] (lNext _ c (toI ww) _ (by assumption) (hS.blk 3 rfl hgl)) ?_)
     rintro _ w ⟨rfl, c_26⟩
     replace hS := hS.no c_26
     have hi_27 : isInt (nextS c (toI ww)) := next_int (by assumption) _
     refine K.l (K.OW.gcall hS [2] [0, 1, 3, 4] [.pointer (some ⟨pm, 0, none⟩), .int .i64 (nextS c (toI ww))] (mPeekD_ok _ _ _ _ _ _ _ x (nextS c (toI ww)) (by first | omega | exact next_int (by assumption) _) (by first | omega | exact hnin _ (by omega))) ?_)
     clear hS; rintro _ _ w ⟨rfl, rfl⟩ hS
     replace hS : K.Sat w0 [l, g_19, l_23, gl, fr] w := hS
     have hw_28 : isW ((M.peek n (nextS c (toI ww))).getD 0) := peek0_W (by assumption)
     refine K.q [.tuple #[.int .u64 ((M.peek n (nextS c (toI ww))).getD 0), .bool true], .int .u64 ((M.peek n (nextS c (toI ww))).getD 0), .bool true, .int .u64 ((M.peek n (nextS c (toI ww))).getD 0), .bool true] (K.z ?_)
     refine K.blk_normal ?_
     refine K.t ?_
     refine ⟨_, ?_, (o ++ [((toI ww) : Int)]), ((M.peek n (nextS c (toI ww))).getD 0), a_21, cap_22, l_23, rfl, ⟨by rfl, by rfl, by rfl, congrArg (fun m_ => Value.slice a_21 m_ cap_22) (by first | rfl | omega | (simp; done) : o.length + 1 = ((o ++ [((toI ww) : Int)])).length), by rfl, by rfl, by rfl, trivial⟩, (hlist.trans (listN_on (by (try rw [List.length_append]); simp; omega) (by assumption) (by assumption) (by assumption))), (nodup_snoc hnd (by assumption)), (in_snoc hin (by have := toI_ge ww; omega)), (by assumption), (by have := nodup_le c.sl.toNat _ (nodup_snoc hnd (by assumption : ¬ toI ww ∈ o)) (fun y hy => by have := in_snoc hin (by have := toI_ge ww; omega : 0 ≤ toI ww ∧ toI ww < c.sl) y hy; omega); exact this), (by first | exact o_24c | (have h := o_24c; simpa using h)), hS.pick [2, 0, 3, 4]⟩
     (try rw [List.length_append]); simp; omega
theorem by_snoc {c : Cfg} {l : List NodeM} {j : Nat} (h : ∀ q, q < j → -1 ≤ (l.getD q nd0).by_ ∧ (l.getD q nd0).by_ < c.th) (hj : -1 ≤ (l.getD j nd0).by_ ∧ (l.getD j nd0).by_ < c.th) : ∀ q, q < j + 1 → -1 ≤ (l.getD q nd0).by_ ∧ (l.getD q nd0).by_ < c.th := fun q hq => by
 by_cases e : q = j
 ·rw [e]; exact hj
 ·exact h q (by omega)
theorem up_snoc {l : List NodeM} {j : Nat} (h : ∀ q, q + 1 < j → (l.getD q nd0).key < (l.getD (q + 1) nd0).key) (hj : 0 < j → (l.getD (j - 1) nd0).key < (l.getD j nd0).key) : ∀ q, q + 1 < j + 1 → (l.getD q nd0).key < (l.getD (q + 1) nd0).key := fun q hq => by
 by_cases e : q + 1 = j
 ·have := hj (by omega)
  rw [show j - 1 = q by omega, ← e] at this; exact this
 ·exact h q (by omega)
theorem ris_up {c : Cfg} {l : List NodeM} {j : Nat} (h : risesP c l) (hl : j < l.length) : 0 < j → (l.getD (j - 1) nd0).key < (l.getD j nd0).key := fun hj => by
 have := h.2.1 (j - 1) (by omega)
 rwa [show j - 1 + 1 = j by omega] at this
set_option maxHeartbeats 1000000 in
set_option maxRecDepth 100000 in
theorem rises_ok (w0 : World) (c : Cfg) (hc : cfgOk c) (a : Option Addr) (cap : Nat) (l : List NodeM) (hm : l.length ≤ 9223372036854775807) (gl : K.Cs) (hgl : ∀ w, K.Sat w0 [gl] w → K.RowE w a l.length 2 (fun i => cNode (l.getD i nd0))) :
  K.GC Tryz.prog w0 10 #[.agg #[.int .i64 c.th, .int .i64 c.sl, .int .i64 c.lo, .int .i64 c.bu], .slice a l.length cap] [gl] (fun v post => post = [gl] ∧ ((v = .bool true ∧ risesP c l) ∨ (v = .bool false ∧ ¬ risesP c l))) := by
 refine K.GC.mk (n := 51) Tryz.func10 rfl rfl [.agg #[.int .i64 c.th, .int .i64 c.sl, .int .i64 c.lo, .int .i64 c.bu], .slice a l.length cap] rfl rfl ?_
 intro fr w hS
 replace hS : K.Sat w0 [gl, fr] w := hS
 refine K.s (K.g ?_)
 refine K.l (K.OW.gnew 23 [.int .i64 c.th, .int .i64 c.sl, .int .i64 c.lo, .int .i64 c.bu] hS ?_)
 clear hS; intro w r_1 g_2 hg_3 hS
 refine K.q [.bool false] (K.z (K.t (K.s (K.s (K.g (K.q [.int .i64 0] (K.z (K.t ?_))))))))
 refine K.KW.block ?_
 refine K.KW.loop (fun m_ F_ w_ => ∃ (j : Nat), m_ = l.length - j ∧ K.Sl F_ [(0, .agg #[.int .i64 c.th, .int .i64 c.sl, .int .i64 c.lo, .int .i64 c.bu]), (1, .slice a l.length cap), (2, .pointer (some ⟨r_1, 0, none⟩)), (5, .int .i64 ((j : Nat) : Int)), (51, undef)] ∧ j ≤ l.length ∧ ((∀ q, q < j → -1 ≤ (l.getD q nd0).by_ ∧ (l.getD q nd0).by_ < c.th)) ∧ ((∀ q, q + 1 < j → (l.getD q nd0).key < (l.getD (q + 1) nd0).key)) ∧ K.Sat w0 [g_2, gl, fr] w_) ((fun (j : Nat) => l.length - j) 0) ?_ ?_
 ·
  exact ⟨0, rfl, ⟨by rfl, by rfl, by rfl, by rfl, by rfl, trivial⟩, (by omega), (fun q h => absurd h (by omega)), (fun q h => absurd h (by omega)), hS.pick [0, 1, 2]⟩
 ·
  clear hS
  intro m_4 F_5 w hI
  obtain ⟨j, rfl, sl_6, p_7, hb1, hb2, hS⟩ := hI
  rw [← K.Sl.puts sl_6]; clear sl_6
  refine K.s (K.s (K.g (K.q [.int .i64 ((j : Nat) : Int), .slice a l.length cap] ?_)))
  refine K.a (K.QR.len (P := Tryz.prog) rfl rfl Tryz.underlying24) ?_
  by_cases h_8 : (((j : Nat) : Int) : Int) < (((l.length : Nat) : Int) : Int)
  ·
   refine K.y ((((j : Nat) : Int) : Int) < (((l.length : Nat) : Int) : Int)) h_8 ?_
   refine K.z (K.t (K.h (K.k (K.t (K.s ?_)))))
   refine K.KW.block ?_
   refine K.s ?_
   obtain ⟨b_9, of_10, rfl, _⟩ := (hgl _ (hS.pick [1])).at_ (by omega)
   refine K.KW.gdrawn [1] hS (by kernel_rfl) ?_
   clear hS; intro w hS
   refine K.p 0 rfl (.slice (some ⟨b_9, of_10, none⟩) l.length cap) (hS.pick [1]) ?_
   refine K.b 1 rfl (.int .i64 ((j : Nat) : Int)) (hS.pick [1]) ?_
   refine K.c 2 rfl (K.QR.ix (of_10 + j * 2) 2 rfl rfl rfl Tryz.underlying24 (by kernel_rfl) (by omega) (by first | (simp; done) | omega | (simp; omega))) (hS.pick [1]) ?_
   refine K.b 3 rfl (.pointer (some ⟨b_9, of_10 + j * 2 + 1, none⟩)) (hS.pick [1]) ?_
   refine K.c 4 rfl (K.QR.ld1 (v := .int .i64 ((l.getD j nd0).by_)) rfl rfl (by kernel_rfl) ((hgl _ (hS.pick [1])).ld j (by omega) 1 _ rfl)) (hS.pick [1]) ?_
   by_cases h_11 : ((l.getD j nd0).by_ : Int) < ((-1) : Int)
   ·
    refine K.c 5 rfl (K.QR.nice (v := .bool (decide (((l.getD j nd0).by_ : Int) < ((-1) : Int)))) (by kernel_rfl) (congrArg Value.bool (decide_eq_true h_11))) (hS.pick [1]) ?_
    refine K.b 6 rfl (.bool true) (hS.pick [1]) ?_
    refine K.w_ 7 rfl (hS.pick [1]) ?_
    refine K.w_ 8 rfl (hS.pick [1]) ?_
    refine K.w_ 9 rfl (hS.pick [1]) ?_
    refine K.w_ 10 rfl (hS.pick [1]) ?_
    refine K.w_ 11 rfl (hS.pick [1]) ?_
    refine K.w_ 12 rfl (hS.pick [1]) ?_
    refine K.w_ 13 rfl (hS.pick [1]) ?_
    refine K.w_ 14 rfl (hS.pick [1]) ?_
    refine K.b 15 rfl (.bool true) (hS.pick [1]) ?_
    refine K.b 16 rfl (.bool true) (hS.pick [1]) ?_
    refine K.w_ 17 rfl (hS.pick [1]) ?_
    refine K.w_ 18 rfl (hS.pick [1]) ?_
    refine K.w_ 19 rfl (hS.pick [1]) ?_
    refine K.w_ 20 rfl (hS.pick [1]) ?_
    refine K.w_ 21 rfl (hS.pick [1]) ?_
    refine K.w_ 22 rfl (hS.pick [1]) ?_
    refine K.w_ 23 rfl (hS.pick [1]) ?_
    refine K.w_ 24 rfl (hS.pick [1]) ?_
    refine K.w_ 25 rfl (hS.pick [1]) ?_
    refine K.w_ 26 rfl (hS.pick [1]) ?_
    refine K.w_ 27 rfl (hS.pick [1]) ?_
    refine K.w_ 28 rfl (hS.pick [1]) ?_
    refine K.w_ 29 rfl (hS.pick [1]) ?_
    refine K.w_ 30 rfl (hS.pick [1]) ?_
    refine K.w_ 31 rfl (hS.pick [1]) ?_
    refine K.w_ 32 rfl (hS.pick [1]) ?_
    refine K.b 33 rfl (.bool true) (hS.pick [1]) ?_
    refine K.DW.done (by kernel_rfl) ?_
    refine K.t (K.h (K.s (K.g (K.q [.bool false] (K.z (K.t (K.r ?_)))))))
    refine K.blk_ret ?_
    refine K.u (K.u ?_)
    refine K.blk_ret ?_
    refine K.u ?_
    refine ⟨.inr rfl, rfl, (.bool false), K.res1 rfl rfl, [gl], ?_, hS.pick [1, 2]⟩
    exact ⟨rfl, .inr ⟨rfl, fun h => by have h1 := h.1 j (by omega); have h2 := ris_up (j := j) h (by omega); omega⟩⟩
   ·
    refine K.c 5 rfl (K.QR.nice (v := .bool (decide (((l.getD j nd0).by_ : Int) < ((-1) : Int)))) (by kernel_rfl) (congrArg Value.bool (decide_eq_false h_11))) (hS.pick [1]) ?_
    refine K.b 6 rfl (.bool false) (hS.pick [1]) ?_
    refine K.p 7 rfl (.slice (some ⟨b_9, of_10, none⟩) l.length cap) (hS.pick [1]) ?_
    refine K.p 8 rfl (.int .i64 ((j : Nat) : Int)) (hS.pick [1]) ?_
    refine K.m 9 rfl (fun w hS => K.QR.ix (of_10 + j * 2) 2 rfl rfl rfl Tryz.underlying24 (by kernel_rfl) (by omega) (by first | (simp; done) | omega | (simp; omega))) (hS.pick [1]) ?_
    refine K.p 10 rfl (.pointer (some ⟨b_9, of_10 + j * 2 + 1, none⟩)) (hS.pick [1]) ?_
    refine K.o_ 11 rfl (.int .i64 ((l.getD j nd0).by_)) (fun w hS => ((hgl _ (hS.pick [0])).ld j (by omega) 1 _ rfl)) (hS.pick [1]) ?_
    refine K.b 12 rfl (.pointer (some ⟨r_1, 0, none⟩)) (hS.pick [1]) ?_
    refine K.c 13 rfl (K.QR.ld1 (v := .int .i64 c.th) rfl rfl (by kernel_rfl) ((hS.blk 0 rfl hg_3).cell rfl)) (hS.pick [1]) ?_
    by_cases h_12 : ((l.getD j nd0).by_ : Int) ≥ (c.th : Int)
    ·
     refine K.c 14 rfl (K.QR.nice (v := .bool (decide (((l.getD j nd0).by_ : Int) ≥ (c.th : Int)))) (by kernel_rfl) (congrArg Value.bool (decide_eq_true h_12))) (hS.pick [1]) ?_
     refine K.b 15 rfl (.bool true) (hS.pick [1]) ?_
     refine K.b 16 rfl (.bool true) (hS.pick [1]) ?_
     refine K.w_ 17 rfl (hS.pick [1]) ?_
     refine K.w_ 18 rfl (hS.pick [1]) ?_
     refine K.w_ 19 rfl (hS.pick [1]) ?_
     refine K.w_ 20 rfl (hS.pick [1]) ?_
     refine K.w_ 21 rfl (hS.pick [1]) ?_
     refine K.w_ 22 rfl (hS.pick [1]) ?_
     refine K.w_ 23 rfl (hS.pick [1]) ?_
     refine K.w_ 24 rfl (hS.pick [1]) ?_
     refine K.w_ 25 rfl (hS.pick [1]) ?_
     refine K.w_ 26 rfl (hS.pick [1]) ?_
     refine K.w_ 27 rfl (hS.pick [1]) ?_
     refine K.w_ 28 rfl (hS.pick [1]) ?_
     refine K.w_ 29 rfl (hS.pick [1]) ?_
     refine K.w_ 30 rfl (hS.pick [1]) ?_
     refine K.w_ 31 rfl (hS.pick [1]) ?_
     refine K.w_ 32 rfl (hS.pick [1]) ?_
     refine K.b 33 rfl (.bool true) (hS.pick [1]) ?_
     refine K.DW.done (by kernel_rfl) ?_
     refine K.t (K.h (K.s (K.g (K.q [.bool false] (K.z (K.t (K.r ?_)))))))
     refine K.blk_ret ?_
     refine K.u (K.u ?_)
     refine K.blk_ret ?_
     refine K.u ?_
     refine ⟨.inr rfl, rfl, (.bool false), K.res1 rfl rfl, [gl], ?_, hS.pick [1, 2]⟩
     exact ⟨rfl, .inr ⟨rfl, fun h => by have h1 := h.1 j (by omega); have h2 := ris_up (j := j) h (by omega); omega⟩⟩
    ·
     refine K.c 14 rfl (K.QR.nice (v := .bool (decide (((l.getD j nd0).by_ : Int) ≥ (c.th : Int)))) (by kernel_rfl) (congrArg Value.bool (decide_eq_false h_12))) (hS.pick [1]) ?_
     refine K.b 15 rfl (.bool false) (hS.pick [1]) ?_
     refine K.b 16 rfl (.bool false) (hS.pick [1]) ?_
     refine K.b 17 rfl (.int .i64 ((j : Nat) : Int)) (hS.pick [1]) ?_
     by_cases h_13 : (((j : Nat) : Int) : Int) > (0 : Int)
     ·
      refine K.c 18 rfl (K.QR.nice (v := .bool (decide ((((j : Nat) : Int) : Int) > (0 : Int)))) (by kernel_rfl) (congrArg Value.bool (decide_eq_true h_13))) (hS.pick [1]) ?_
      refine K.b 19 rfl (.bool true) (hS.pick [1]) ?_
      refine K.p 20 rfl (.slice (some ⟨b_9, of_10, none⟩) l.length cap) (hS.pick [1]) ?_
      refine K.p 21 rfl (.int .i64 ((j : Nat) : Int)) (hS.pick [1]) ?_
      refine K.m 22 rfl (fun w hS => K.QR.ix (of_10 + j * 2) 2 rfl rfl rfl Tryz.underlying24 (by kernel_rfl) (by omega) (by first | (simp; done) | omega | (simp; omega))) (hS.pick [1]) ?_
      refine K.p 23 rfl (.pointer (some ⟨b_9, of_10 + j * 2, none⟩)) (hS.pick [1]) ?_
      refine K.o_ 24 rfl (.int .u32 ((l.getD j nd0).key)) (fun w hS => ((hgl _ (hS.pick [0])).ld j (by omega) 0 _ rfl)) (hS.pick [1]) ?_
      refine K.p 25 rfl (.slice (some ⟨b_9, of_10, none⟩) l.length cap) (hS.pick [1]) ?_
      refine K.b 26 rfl (.int .i64 ((j : Nat) : Int)) (hS.pick [1]) ?_
      refine K.c 27 rfl (K.QR.n64 ((((j : Nat) : Int) : Int) - (1 : Int)) ((j - 1 : Nat) : Int) (by kernel_rfl) (by omega)) (hS.pick [1]) ?_
      refine K.c 28 rfl (K.QR.ix (of_10 + (j - 1) * 2) 2 rfl rfl rfl Tryz.underlying24 (by kernel_rfl) (by omega) (by first | (simp; done) | omega | (simp; omega))) (hS.pick [1]) ?_
      refine K.b 29 rfl (.pointer (some ⟨b_9, of_10 + (j - 1) * 2, none⟩)) (hS.pick [1]) ?_
      refine K.c 30 rfl (K.QR.ld1 (v := .int .u32 ((l.getD (j - 1) nd0).key)) rfl rfl (by kernel_rfl) ((hgl _ (hS.pick [1])).ld (j - 1) (by omega) 0 _ rfl)) (hS.pick [1]) ?_
      by_cases h_14 : ((l.getD j nd0).key : Int) ≤ ((l.getD (j - 1) nd0).key : Int)
      ·
       refine K.c 31 rfl (K.QR.nice (v := .bool (decide (((l.getD j nd0).key : Int) ≤ ((l.getD (j - 1) nd0).key : Int)))) (by kernel_rfl) (congrArg Value.bool (decide_eq_true h_14))) (hS.pick [1]) ?_
       refine K.b 32 rfl (.bool true) (hS.pick [1]) ?_
       refine K.b 33 rfl (.bool true) (hS.pick [1]) ?_
       refine K.DW.done (by kernel_rfl) ?_
       refine K.t (K.h (K.s (K.g (K.q [.bool false] (K.z (K.t (K.r ?_)))))))
       refine K.blk_ret ?_
       refine K.u (K.u ?_)
       refine K.blk_ret ?_
       refine K.u ?_
       refine ⟨.inr rfl, rfl, (.bool false), K.res1 rfl rfl, [gl], ?_, hS.pick [1, 2]⟩
       exact ⟨rfl, .inr ⟨rfl, fun h => by have h1 := h.1 j (by omega); have h2 := ris_up (j := j) h (by omega); omega⟩⟩
      ·
       refine K.c 31 rfl (K.QR.nice (v := .bool (decide (((l.getD j nd0).key : Int) ≤ ((l.getD (j - 1) nd0).key : Int)))) (by kernel_rfl) (congrArg Value.bool (decide_eq_false h_14))) (hS.pick [1]) ?_
       refine K.b 32 rfl (.bool false) (hS.pick [1]) ?_
       refine K.b 33 rfl (.bool false) (hS.pick [1]) ?_
       refine K.DW.done (by kernel_rfl) ?_
       refine K.t (K.f (K.k ?_))
       refine K.blk_normal ?_
       refine K.t (K.g (K.q [.int .i64 ((j : Nat) : Int)] ?_))
       refine K.a (K.QR.n64 ((((j : Nat) : Int) : Int) + (1 : Int)) ((j + 1 : Nat) : Int) (by kernel_rfl) (by omega)) ?_
       refine K.q [.int .i64 ((j + 1 : Nat) : Int)] (K.z (K.t ?_))
       refine ⟨_, ?_, j + 1, rfl, ⟨by rfl, by rfl, by rfl, by rfl, by rfl, trivial⟩, (by omega), (by_snoc hb1 (by omega)), (up_snoc hb2 (fun hj => by omega)), hS.pick [0, 1, 2]⟩
       omega
     ·
      refine K.c 18 rfl (K.QR.nice (v := .bool (decide ((((j : Nat) : Int) : Int) > (0 : Int)))) (by kernel_rfl) (congrArg Value.bool (decide_eq_false h_13))) (hS.pick [1]) ?_
      refine K.b 19 rfl (.bool false) (hS.pick [1]) ?_
      refine K.w_ 20 rfl (hS.pick [1]) ?_
      refine K.w_ 21 rfl (hS.pick [1]) ?_
      refine K.w_ 22 rfl (hS.pick [1]) ?_
      refine K.w_ 23 rfl (hS.pick [1]) ?_
      refine K.w_ 24 rfl (hS.pick [1]) ?_
      refine K.w_ 25 rfl (hS.pick [1]) ?_
      refine K.w_ 26 rfl (hS.pick [1]) ?_
      refine K.w_ 27 rfl (hS.pick [1]) ?_
      refine K.w_ 28 rfl (hS.pick [1]) ?_
      refine K.w_ 29 rfl (hS.pick [1]) ?_
      refine K.w_ 30 rfl (hS.pick [1]) ?_
      refine K.w_ 31 rfl (hS.pick [1]) ?_
      refine K.b 32 rfl (.bool false) (hS.pick [1]) ?_
      refine K.b 33 rfl (.bool false) (hS.pick [1]) ?_
      refine K.DW.done (by kernel_rfl) ?_
      refine K.t (K.f (K.k ?_))
      refine K.blk_normal ?_
      refine K.t (K.g (K.q [.int .i64 ((j : Nat) : Int)] ?_))
      refine K.a (K.QR.n64 ((((j : Nat) : Int) : Int) + (1 : Int)) ((j + 1 : Nat) : Int) (by kernel_rfl) (by omega)) ?_
      refine K.q [.int .i64 ((j + 1 : Nat) : Int)] (K.z (K.t ?_))
      refine ⟨_, ?_, j + 1, rfl, ⟨by rfl, by rfl, by rfl, by rfl, by rfl, trivial⟩, (by omega), (by_snoc hb1 (by omega)), (up_snoc hb2 (fun hj => by omega)), hS.pick [0, 1, 2]⟩
      omega
  ·
   refine K.x ((((j : Nat) : Int) : Int) < (((l.length : Nat) : Int) : Int)) h_8 ?_
   refine K.z (K.t (K.f ?_))
   refine K.KW.exit ?_
   refine K.thn_exit ?_
   refine K.thn_exit ?_
   refine K.blk_hit ?_
   refine K.t (K.s (K.g (K.q [.slice a l.length cap] ?_)))
   refine K.a (K.QR.len (P := Tryz.prog) rfl rfl Tryz.underlying24) ?_
   refine K.q [.pointer (some ⟨r_1, 1, none⟩)] ?_
   refine K.d (.int .i64 c.sl) ((hS.blk 0 rfl hg_3).cell rfl) ?_
   by_cases h_15 : (((l.length : Nat) : Int) : Int) ≤ (c.sl : Int)
   ·
    refine K.y ((((l.length : Nat) : Int) : Int) ≤ (c.sl : Int)) h_15 ?_
    refine K.q [.bool true] (K.z (K.t (K.r ?_)))
    refine ⟨.inr rfl, rfl, (.bool true), K.res1 rfl rfl, [gl], ?_, hS.pick [1, 2]⟩
    exact ⟨rfl, .inl ⟨rfl, ⟨fun q hq => hb1 q (by omega), fun q hq => hb2 q (by omega), by omega⟩⟩⟩
   ·
    refine K.x ((((l.length : Nat) : Int) : Int) ≤ (c.sl : Int)) h_15 ?_
    refine K.q [.bool false] (K.z (K.t (K.r ?_)))
    refine ⟨.inr rfl, rfl, (.bool false), K.res1 rfl rfl, [gl], ?_, hS.pick [1, 2]⟩
    exact ⟨rfl, .inr ⟨rfl, fun h => by have := h.2.2; omega⟩⟩
end Go.Proofs.YtbfafebfkdbglaaGreat
