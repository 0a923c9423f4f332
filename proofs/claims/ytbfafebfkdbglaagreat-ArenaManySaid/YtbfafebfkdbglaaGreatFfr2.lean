import Derived.Test.YtbfafebfkdbglaaGreatFfr
import Derived.Test.YtbfafebfkdbglaaGreatFlist
/- The free list: the code's and the document's. -/
namespace Go.Proofs.YtbfafebfkdbglaaGreat
open Go.RowKit
set_option linter.unusedVariables false
attribute [local irreducible] K.KW K.RW K.DW K.OW K.QR K.KC
theorem nodup_le : ∀ (n : Nat) (l : List Int), l.Nodup → (∀ x ∈ l, 0 ≤ x ∧ x < n) → l.length ≤ n
 | 0, [], _, _ => Nat.le_refl 0
 | 0, x :: l, _, h => by have := h x (by simp); omega
 | n + 1, l, hn, h => by
  by_cases hm : (n : Int) ∈ l
  ·have h1 := List.length_erase_of_mem hm
   have h2 := nodup_le n (l.erase (n : Int)) (hn.erase _) (fun x hx => by
    have hx2 := (List.Nodup.mem_erase_iff hn).1 hx
    have := h x hx2.2
    have := hx2.1
    omega)
   omega
  ·have := nodup_le n l hn (fun x hx => by
    have := h x hx
    have : x ≠ (n : Int) := fun e => hm (e ▸ hx)
    omega)
   omega
/-- the free list, gone through -/
def listC (c : Cfg) (n : Nat) (M : MemM) : Nat → List Int → Int → List Int × Bool
 | 0, o, _ => (o, false)
 | k + 1, o, w => if toI w = -1 then (o, true) else if toI w ≥ c.sl ∨ toI w ∈ o then (o, false) else listC c n M k (o ++ [toI w]) ((M.peek n (aftS c (toI w))).getD 0)
def listG (c : Cfg) (n : Nat) (M : MemM) : List Int × Bool := listC c n M (c.sl.toNat + 2) [] ((M.peek n (-2)).getD 0)
section
variable {c : Cfg} {n : Nat} {M : MemM} {m : Nat} {o : List Int} {w : Int}
theorem listC_end (h : 0 < m) (e : toI w = -1) : listC c n M m o w = (o, true) := by
 cases m with
 | zero => omega
 | succ m => unfold listC; rw [if_pos e]
theorem listC_bad (h : 0 < m) (e : ¬ toI w = -1) (e2 : toI w ≥ c.sl ∨ toI w ∈ o) : listC c n M m o w = (o, false) := by
 cases m with
 | zero => omega
 | succ m => unfold listC; rw [if_neg e, if_pos e2]
theorem listC_on {m' : Nat} (h : m = m' + 1) (e : ¬ toI w = -1) (e1 : ¬ toI w ≥ c.sl) (e2 : ¬ toI w ∈ o) : listC c n M m o w = listC c n M m' (o ++ [toI w]) ((M.peek n (aftS c (toI w))).getD 0) := by
 subst h
 rw [listC, if_neg e, if_neg (fun h => h.elim e1 e2)]
end
theorem toI_ge (w : Int) : -1 ≤ toI w := by unfold toI; omega
theorem nodup_snoc {o : List Int} {x : Int} (h : o.Nodup) (hx : ¬ x ∈ o) : (o ++ [x]).Nodup := by
 rw [List.nodup_append]
 exact ⟨h, by simp, fun a ha b hb e => hx (by rw [List.mem_singleton.1 hb] at e; exact e ▸ ha)⟩
theorem in_snoc {o : List Int} {x s : Int} (h : ∀ y ∈ o, 0 ≤ y ∧ y < s) (hx : 0 ≤ x ∧ x < s) : ∀ y ∈ o ++ [x], 0 ≤ y ∧ y < s := fun y hy => by
 rcases List.mem_append.1 hy with hy | hy
 ·exact h y hy
 ·rw [List.mem_singleton.1 hy]; exact hx
theorem not_mem_snoc {xs : List Int} {x : Int} {k : Nat} (h : ∀ q, q < k → ¬ xs.getD q 0 = x) (hk : xs.length ≤ k) : ¬ x ∈ xs := fun hm => by
 obtain ⟨i, hi, e⟩ := List.mem_iff_getElem.1 hm
 exact h i (by omega) (by simpa [hi] using e)
theorem mem_getDI {xs : List Int} {x : Int} {k : Nat} (hk : k < xs.length) (e : xs.getD k 0 = x) : x ∈ xs := by rw [← e]; simp [hk]
theorem none_succI {L : List Int} {x : Int} {i : Nat} (h : ∀ j, j < i → ¬ L.getD j 0 = x) (e : ¬ L.getD i 0 = x) : ∀ j, j < i + 1 → ¬ L.getD j 0 = x := fun j hj => by
 rcases Nat.lt_or_ge j i with h' | h'
 ·exact h j h'
 ·rw [show j = i by omega]; exact e
theorem aft_in {c : Cfg} (hc : cfgOk c) {s : Int} (h : 0 ≤ s ∧ s < c.sl) : aftS c s = -3 - c.th - s := by unfold aftS; rw [if_pos h]
theorem mPeekG_ok (w0 : World) (p q n t : Nat) (M : MemM) (l : K.Cs) (x : MemAt l p q n t M) (i : Int) (hi : isInt i) (h : i < 0 ∧ -1 - i < M.pass.length) : K.GC Tryz.prog w0 36 #[.pointer (some ⟨p, 0, none⟩), .int .i64 i] [l] (fun v post => v = .tuple #[.int .u64 ((M.peek n i).getD 0), .bool true] ∧ post = [l]) := by
 refine (mPeek_ok w0 p q n t M l x i hi).mono ?_
 rintro v post ⟨rfl, ⟨y, rfl, e⟩ | ⟨rfl, e⟩⟩
 ·rw [e]; exact ⟨rfl, rfl⟩
 ·rw [peek_pass h] at e; cases e
set_option maxHeartbeats 1000000 in
set_option maxRecDepth 100000 in
theorem index_ok (w0 : World) (a : Option Addr) (cap : Nat) (xs : List Int) (x : Int) (hm : xs.length ≤ 1000000) (gx : K.Cs) (hx : ∀ w, K.Sat w0 [gx] w → K.RowE w a xs.length 1 (fun i => cI64 (xs.getD i 0))) :
  K.GC Tryz.prog w0 122 #[.slice a xs.length cap, .int .i64 x] [gx] (fun v post => post = [gx] ∧ ((∃ k : Nat, v = .int .i64 k ∧ k < xs.length ∧ x ∈ xs) ∨ (v = .int .i64 (-1) ∧ ¬ x ∈ xs))) := by
 refine K.GC.mk (n := 19) Tryz.func122 rfl rfl [.slice a xs.length cap, .int .i64 x] rfl rfl ?_
 intro fr w hS
 replace hS : K.Sat w0 [gx, fr] w := hS
 refine K.s (K.g (K.q [.int .i64 0] (K.z (K.t (K.s (K.s (K.g (K.q [.slice a xs.length cap] ?_))))))))
 refine K.a (K.QR.len (P := Tryz.prog) rfl rfl Tryz.underlying44) ?_
 refine K.q [.int .i64 0] (K.z (K.t ?_))
 refine K.KW.block ?_
 refine K.KW.loop (fun m_ F_ w_ => ∃ (k : Nat), m_ = xs.length - k ∧ K.Sl F_ [(0, .slice a xs.length cap), (1, .int .i64 x), (7, .int .i64 ((xs.length : Nat) : Int)), (8, .int .i64 ((k : Nat) : Int)), (19, undef)] ∧ k ≤ xs.length ∧ ((∀ q, q < k → ¬ xs.getD q 0 = x)) ∧ K.Sat w0 [gx, fr] w_) ((fun (k : Nat) => xs.length - k) 0) ?_ ?_
 ·
  exact ⟨0, rfl, ⟨by rfl, by rfl, by rfl, by rfl, by rfl, trivial⟩, (by omega), (fun q h => absurd h (by omega)), hS.pick [0, 1]⟩
 ·
  clear hS
  intro m_1 F_2 w hI
  obtain ⟨k, rfl, sl_3, p_4, hno, hS⟩ := hI
  rw [← K.Sl.puts sl_3]; clear sl_3
  refine K.s (K.g ?_)
  by_cases h_5 : (((k : Nat) : Int) : Int) < (((xs.length : Nat) : Int) : Int)
  ·
   refine K.y ((((k : Nat) : Int) : Int) < (((xs.length : Nat) : Int) : Int)) h_5 ?_
   refine K.z (K.t (K.s (K.h (K.k (K.t (K.s ?_))))))
   refine K.KW.block ?_
   refine K.s (K.g (K.q [.int .i64 ((k : Nat) : Int), .int .i64 ((k : Nat) : Int)] (K.z (K.t (K.s ?_)))))
   obtain ⟨b_6, of_7, rfl, _⟩ := (hx _ (hS.pick [0])).at_ (by omega)
   refine K.g (K.q [.int .i64 x, .slice (some ⟨b_6, of_7, none⟩) xs.length cap, .int .i64 ((k : Nat) : Int)] ?_)
   refine K.a (K.QR.ix (of_7 + k * 1) 1 rfl rfl rfl Tryz.underlying44 (by kernel_rfl) (by omega) (by first | (simp; done) | omega | (simp; omega))) ?_
   refine K.d (.int .i64 (xs.getD k 0)) ((hx _ (hS.pick [0])).ld k (by omega) 0 _ rfl) ?_
   by_cases h_8 : (x : Int) = (xs.getD k 0 : Int)
   ·
    refine K.ye (x : Int) (xs.getD k 0 : Int) h_8 ?_
    refine K.z (K.t (K.h (K.s (K.g (K.q [.int .i64 ((k : Nat) : Int), .int .i64 ((k : Nat) : Int)] (K.z (K.t (K.r ?_))))))))
    refine K.blk_ret ?_
    refine K.u (K.u ?_)
    refine K.blk_ret ?_
    refine K.u ?_
    refine ⟨.inr rfl, rfl, (.int .i64 ((k : Nat) : Int)), K.res1 rfl rfl, [gx], ?_, hS.pick [0, 1]⟩
    exact ⟨rfl, .inl ⟨k, rfl, by omega, mem_getDI (k := k) (by omega) (by omega)⟩⟩
   ·
    refine K.xe (x : Int) (xs.getD k 0 : Int) h_8 ?_
    refine K.z (K.t (K.f (K.k ?_)))
    refine K.blk_normal ?_
    refine K.t (K.g ?_)
    refine K.a (K.QR.n64 ((((k : Nat) : Int) : Int) + (1 : Int)) ((k + 1 : Nat) : Int) (by kernel_rfl) (by omega)) ?_
    refine K.q [.int .i64 ((k + 1 : Nat) : Int)] (K.z (K.t ?_))
    refine ⟨_, ?_, k + 1, rfl, ⟨by rfl, by rfl, by rfl, by rfl, by rfl, trivial⟩, (by omega), (none_succI hno (fun e => (by assumption : ¬ _) e.symm)), hS.pick [0, 1]⟩
    omega
  ·
   refine K.x ((((k : Nat) : Int) : Int) < (((xs.length : Nat) : Int) : Int)) h_5 ?_
   refine K.z (K.t (K.s (K.f ?_)))
   refine K.KW.exit ?_
   refine K.thn_exit ?_
   refine K.thn_exit ?_
   refine K.blk_hit ?_
   refine K.t (K.s (K.g (K.q [.int .i64 (-1)] (K.z (K.t (K.r ?_))))))
   refine ⟨.inr rfl, rfl, (.int .i64 (-1)), K.res1 rfl rfl, [gx], ?_, hS.pick [0, 1]⟩
   exact ⟨rfl, .inr ⟨rfl, not_mem_snoc hno (by omega)⟩⟩
set_option maxHeartbeats 1000000 in
set_option maxRecDepth 100000 in
theorem contains_ok (w0 : World) (a : Option Addr) (cap : Nat) (xs : List Int) (x : Int) (hm : xs.length ≤ 1000000) (gx : K.Cs) (hx : ∀ w, K.Sat w0 [gx] w → K.RowE w a xs.length 1 (fun i => cI64 (xs.getD i 0))) :
  K.GC Tryz.prog w0 72 #[.slice a xs.length cap, .int .i64 x] [gx] (fun v post => post = [gx] ∧ ((v = .bool true ∧ x ∈ xs) ∨ (v = .bool false ∧ ¬ x ∈ xs))) := by
 refine K.GC.mk (n := 9) Tryz.func72 rfl rfl [.slice a xs.length cap, .int .i64 x] rfl rfl ?_
 intro fr w hS
 replace hS : K.Sat w0 [gx, fr] w := hS
 refine K.s (K.g (K.q [.bool false] (K.z (K.t (K.s (K.g (K.q [.slice a xs.length cap, .int .i64 x] ?_)))))))
 refine K.l (K.OW.gcall hS [0] [1] [.slice a xs.length cap, .int .i64 x] (index_ok _ _ _ xs x (by first | omega | decide) _ hx) ?_)
 clear hS; rintro _ _ w ⟨rfl, (⟨k_1, rfl, h_2, h2_3⟩ | ⟨rfl, h_4⟩)⟩ hS
 ·
  replace hS : K.Sat w0 [gx, fr] w := hS
  refine K.y ((((k_1 : Nat) : Int) : Int) ≥ (0 : Int)) (by omega) ?_
  refine K.q [.bool true] (K.z (K.t (K.r ?_)))
  refine ⟨.inr rfl, rfl, (.bool true), K.res1 rfl rfl, [gx], ?_, hS.pick [0, 1]⟩
  exact ⟨rfl, .inl ⟨rfl, by assumption⟩⟩
 ·
  replace hS : K.Sat w0 [gx, fr] w := hS
  refine K.q [.bool false, .bool false] (K.z (K.t (K.r ?_)))
  refine ⟨.inr rfl, rfl, (.bool false), K.res1 rfl rfl, [gx], ?_, hS.pick [0, 1]⟩
  exact ⟨rfl, .inr ⟨rfl, by assumption⟩⟩
set_option maxHeartbeats 1000000 in
set_option maxRecDepth 100000 in
theorem list_ok (w0 : World) (b pm q n t : Nat) (c : Cfg) (hc : cfgOk c) (hf : c.sl ≤ 65536) (M : MemM) (gl l : K.Cs) (hgl : gl = layPt b c) (x : MemAt l pm q n t M) (hM : M.good) (hP : (M.pass.length : Int) = 2 + c.th + c.sl) :
  K.GC Tryz.prog w0 47 #[.pointer (some ⟨b, 0, none⟩), .pointer (some ⟨pm, 0, none⟩)] [gl, l] (fun v post => ∃ r cc l2, v = .tuple #[.slice r (listG c n M).1.length cc, .bool (listG c n M).2] ∧ post = [gl, l, l2] ∧ K.OwnG l2 3 1 r (listG c n M).1.length cc ((listG c n M).1.flatMap cI64)) := by
 have hcc := hc
 unfold cfgOk at hcc
 refine K.GC.mk (n := 50) Tryz.func47 rfl rfl [.pointer (some ⟨b, 0, none⟩), .pointer (some ⟨pm, 0, none⟩)] rfl rfl ?_
 intro fr w hS
 replace hS : K.Sat w0 [gl, l, fr] w := hS
 refine K.s (K.g (K.q [.slice none 0 0, .bool false] (K.z (K.t (K.s (K.g (K.q [.slice none 0 0] (K.z (K.t (K.s (K.g (K.q [.pointer (some ⟨pm, 0, none⟩), .pointer (some ⟨b, 0, none⟩)] ?_))))))))))))
 refine K.l (K.OW.kcall hS [.pointer (some ⟨b, 0, none⟩)] (lFree _ c  _ (by assumption) (hS.blk 0 rfl hgl)) ?_)
 rintro _ w ⟨rfl, c_1⟩
 replace hS := hS.no c_1
 refine K.l (K.OW.gcall hS [1] [0, 2] [.pointer (some ⟨pm, 0, none⟩), .int .i64 (-2)] (mPeekG_ok _ _ _ _ _ _ _ x ((-2) : Int) (by first | omega | exact aft_int (by assumption) _ | exact ann_int (by assumption) _ (by omega)) (by first | omega | (rw [aft_in (by assumption) (by omega)]; omega))) ?_)
 clear hS; rintro _ _ w ⟨rfl, rfl⟩ hS
 replace hS : K.Sat w0 [l, gl, fr] w := hS
 have hw_2 : isW ((M.peek n ((-2) : Int)).getD 0) := peek0_W (by assumption)
 refine K.q [.tuple #[.int .u64 ((M.peek n ((-2) : Int)).getD 0), .bool true], .int .u64 ((M.peek n ((-2) : Int)).getD 0), .bool true, .int .u64 ((M.peek n ((-2) : Int)).getD 0), .bool true] (K.z (K.t (K.s ?_)))
 refine K.KW.block ?_
 obtain ⟨z_3, hz_4⟩ : ∃ z : K.Cs, z = [] := ⟨_, rfl⟩
 replace hS : K.Sat w0 [z_3, l, gl, fr] w := hS.of (by simp [hz_4])
 have o_5 : K.OwnG z_3 3 1 none 0 0 [] := by rw [hz_4]; exact K.OwnG.nil _ _
 refine K.KW.loop (fun m_ F_ w_ => ∃ (o : List Int) (ww : Int) (q1 : Option Addr) (c1 : Nat) (o1 : K.Cs), m_ = c.sl.toNat + 2 - o.length ∧ K.Sl F_ [(0, .pointer (some ⟨b, 0, none⟩)), (1, .pointer (some ⟨pm, 0, none⟩)), (6, .slice q1 o.length c1), (7, .int .u64 ww), (8, .bool true), (50, undef)] ∧ listG c n M = listC c n M (c.sl.toNat + 2 - o.length) o ww ∧ o.Nodup ∧ ((∀ y ∈ o, 0 ≤ y ∧ y < c.sl)) ∧ isW ww ∧ o.length ≤ c.sl.toNat ∧ K.OwnG o1 3 1 q1 o.length c1 ((o).flatMap cI64) ∧ K.Sat w0 [o1, l, gl, fr] w_) ((fun (o : List Int) (ww : Int) (q1 : Option Addr) (c1 : Nat) => c.sl.toNat + 2 - o.length) [] ((M.peek n (-2)).getD 0) none 0) ?_ ?_
 ·
  exact ⟨[], ((M.peek n (-2)).getD 0), none, 0, z_3, rfl, ⟨by rfl, by rfl, by rfl, by rfl, by rfl, by rfl, trivial⟩, (by unfold listG; rfl), (List.nodup_nil), (fun y h => by cases h), (by assumption), (by exact Nat.zero_le _), o_5, hS.pick [0, 1, 2, 3]⟩
 ·
  clear hS
  intro m_6 F_7 w hI
  obtain ⟨o, ww, q1, c1, o1, rfl, sl_8, hlist, hnd, hin, p_9, p_10, x_11, hS⟩ := hI
  rw [← K.Sl.puts sl_8]; clear sl_8
  refine K.s (K.s (K.g (K.q [.bool true, .bool true, .int .u64 ww] ?_)))
  refine K.l (K.OW.gcall hS [] [0, 1, 2, 3] [.int .u64 ww] (to_ok _ ww (by first | assumption | (unfold isW; omega))) ?_)
  clear hS; rintro _ _ w ⟨rfl, rfl⟩ hS
  replace hS : K.Sat w0 [o1, l, gl, fr] w := hS
  by_cases h_12 : ((toI ww) : Int) = ((-1) : Int)
  ·
   refine K.xn ((toI ww) : Int) ((-1) : Int) h_12 ?_
   refine K.q [.bool false] (K.z (K.t (K.f ?_)))
   refine K.KW.exit ?_
   refine K.thn_exit ?_
   refine K.thn_exit ?_
   refine K.blk_hit ?_
   refine K.t (K.s (K.g (K.q [.slice q1 o.length c1, .bool true, .slice q1 o.length c1, .bool true] (K.z (K.t (K.r ?_))))))
   have e : listG c n M = (o, true) := hlist.trans (listC_end (by omega) (by assumption))
   refine ⟨.inr rfl, rfl, (.tuple #[.slice q1 o.length c1, .bool true]), K.res2 rfl rfl rfl, [gl, l, o1], ?_, hS.pick [2, 1, 0, 3]⟩
   exact ⟨_, _, _, by rw [e], rfl, by rw [e]; exact x_11⟩
  ·
   refine K.yn ((toI ww) : Int) ((-1) : Int) h_12 ?_
   refine K.q [.bool true] (K.z (K.t (K.h (K.k (K.t ?_)))))
   refine K.KW.block ?_
   refine K.s (K.g (K.q [.int .u64 ww] ?_))
   refine K.l (K.OW.gcall hS [] [0, 1, 2, 3] [.int .u64 ww] (to_ok _ ww (by first | assumption | (unfold isW; omega))) ?_)
   clear hS; rintro _ _ w ⟨rfl, rfl⟩ hS
   replace hS : K.Sat w0 [o1, l, gl, fr] w := hS
   refine K.q [.int .i64 (toI ww)] (K.z (K.t (K.s (K.s ?_))))
   have hge := toI_ge ww
   refine K.g (K.q [.int .i64 (toI ww), .pointer (some ⟨b, 0, none⟩)] ?_)
   refine K.l (K.OW.kcall hS [.pointer (some ⟨b, 0, none⟩)] (lConfig _ c  _ (by assumption) (hS.blk 2 rfl hgl)) ?_)
   rintro _ w ⟨rfl, c_13⟩
   replace hS := hS.no c_13
   refine K.q [.int .i64 c.sl] ?_
   by_cases h_14 : ((toI ww) : Int) ≥ (c.sl : Int)
   ·
    refine K.y (((toI ww) : Int) ≥ (c.sl : Int)) h_14 ?_
    refine K.q [.bool true] (K.n_ (K.n_ (K.n_ (K.q [.bool true] (K.z (K.t (K.h (K.s (K.g (K.q [.slice q1 o.length c1, .slice q1 o.length c1, .bool false] (K.z (K.t (K.r (K.u ?_))))))))))))))
    refine K.blk_ret ?_
    refine K.u ?_
    refine K.blk_ret ?_
    refine K.u ?_
    have e : listG c n M = (o, false) := hlist.trans (listC_bad (by omega) (by assumption) (by first | exact .inl (by omega) | exact .inr (by assumption)))
    refine ⟨.inr rfl, rfl, (.tuple #[.slice q1 o.length c1, .bool false]), K.res2 rfl rfl rfl, [gl, l, o1], ?_, hS.pick [2, 1, 0, 3]⟩
    exact ⟨_, _, _, by rw [e], rfl, by rw [e]; exact x_11⟩
   ·
    refine K.x (((toI ww) : Int) ≥ (c.sl : Int)) h_14 ?_
    refine K.q [.bool false, .slice q1 o.length c1, .int .i64 (toI ww)] ?_
    refine K.l (K.OW.gcall hS [0] [1, 2, 3] [.slice q1 o.length c1, .int .i64 (toI ww)] (contains_ok _ _ _ o (toI ww) (by first | omega | decide) _ (fun w h => K.RowE.len (K.Own.rowE 0 (h.ownr 0 rfl x_11) rfl (fun _ => rfl)) rfl)) ?_)
    clear hS; rintro _ _ w ⟨rfl, (⟨rfl, h_15⟩ | ⟨rfl, h_16⟩)⟩ hS
    ·
     replace hS : K.Sat w0 [o1, l, gl, fr] w := hS
     refine K.q [.bool true] (K.z (K.t (K.h (K.s (K.g (K.q [.slice q1 o.length c1, .slice q1 o.length c1, .bool false] (K.z (K.t (K.r (K.u ?_))))))))))
     refine K.blk_ret ?_
     refine K.u ?_
     refine K.blk_ret ?_
     refine K.u ?_
     have e : listG c n M = (o, false) := hlist.trans (listC_bad (by omega) (by assumption) (by first | exact .inl (by omega) | exact .inr (by assumption)))
     refine ⟨.inr rfl, rfl, (.tuple #[.slice q1 o.length c1, .bool false]), K.res2 rfl rfl rfl, [gl, l, o1], ?_, hS.pick [2, 1, 0, 3]⟩
     exact ⟨_, _, _, by rw [e], rfl, by rw [e]; exact x_11⟩
    ·
     replace hS : K.Sat w0 [o1, l, gl, fr] w := hS
     refine K.q [.bool false] (K.z (K.t (K.f (K.k (K.t (K.s (K.g (K.q [.slice q1 o.length c1, .int .i64 (toI ww)] ?_))))))))
     refine K.l (K.OW.gbs [(0, .int .i64 (toI ww))] [.int .i64 (toI ww)] hS (fun w => K.bs_run (P := Tryz.prog) w 44 3 1 _ _ Tryz.underlying44 (by kernel_rfl)) ?_)
     clear hS; intro w r_17 g_18 hg_19 hS
     refine K.l (K.OW.gapp (P := Tryz.prog) (xs := (o).flatMap cI64) (z := .int .i64 0) (size := 1) (bytes := 8) 1 [.int .i64 (toI ww)] hS x_11 ?_ (fun j u hj => (by rw [Nat.zero_add]; exact (hS.blk 0 rfl hg_19).cell hj)) (K.one_cells (by rfl)) (by rfl) Tryz.underlying44 (by kernel_rfl) rfl (by decide) (by unfold maxLen; omega) (by omega))
     clear hS; intro a_20 cap_21 w l_22 o_23 hS
     have ln_24 : ((o ++ [((toI ww) : Int)])).length = o.length + 1 := by rw [List.length_append]; rfl
     have o_23c := K.OwnG.cast (xs' := ((o ++ [((toI ww) : Int)])).flatMap cI64) o_23 rfl (K.fl_snoc cI64 o _ rfl)
     replace hS : K.Sat w0 [g_18, l_22, l, gl, fr] w := hS
     refine K.q [.slice a_20 (o.length + 1) cap_21] (K.z (K.t (K.g (K.q [.pointer (some ⟨pm, 0, none⟩), .pointer (some ⟨b, 0, none⟩), .int .i64 (toI ww)] ?_))))
     refine K.l (K.OW.kcall hS [.pointer (some ⟨b, 0, none⟩), .int .i64 (toI ww)] (lAfter _ c (toI ww) _ (by assumption) (hS.blk 3 rfl hgl)) ?_)
     rintro _ w ⟨rfl, c_25⟩
     replace hS := hS.no c_25
     refine K.l (K.OW.gcall hS [2] [0, 1, 3, 4] [.pointer (some ⟨pm, 0, none⟩), .int .i64 (aftS c (toI ww))] (mPeekG_ok _ _ _ _ _ _ _ x (aftS c (toI ww)) (by first | omega | exact aft_int (by assumption) _ | exact ann_int (by assumption) _ (by omega)) (by first | omega | (rw [aft_in (by assumption) (by omega)]; omega))) ?_)
     clear hS; rintro _ _ w ⟨rfl, rfl⟩ hS
     replace hS : K.Sat w0 [l, g_18, l_22, gl, fr] w := hS
     have hw_26 : isW ((M.peek n (aftS c (toI ww))).getD 0) := peek0_W (by assumption)
     refine K.q [.tuple #[.int .u64 ((M.peek n (aftS c (toI ww))).getD 0), .bool true], .int .u64 ((M.peek n (aftS c (toI ww))).getD 0), .bool true, .int .u64 ((M.peek n (aftS c (toI ww))).getD 0), .bool true] (K.z ?_)
     refine K.blk_normal ?_
     refine K.t ?_
     refine ⟨_, ?_, (o ++ [((toI ww) : Int)]), ((M.peek n (aftS c (toI ww))).getD 0), a_20, cap_21, l_22, rfl, ⟨by rfl, by rfl, congrArg (fun m_ => Value.slice a_20 m_ cap_21) (by first | rfl | omega | (simp; done) : o.length + 1 = ((o ++ [((toI ww) : Int)])).length), by rfl, by rfl, by rfl, trivial⟩, (hlist.trans (listC_on (by (try rw [List.length_append]); simp; omega) (by assumption) (by assumption) (by assumption))), (nodup_snoc hnd (by assumption)), (in_snoc hin (by have := toI_ge ww; omega)), (by assumption), (by have := nodup_le c.sl.toNat _ (nodup_snoc hnd (by assumption : ¬ toI ww ∈ o)) (fun y hy => by have := in_snoc hin (by have := toI_ge ww; omega : 0 ≤ toI ww ∧ toI ww < c.sl) y hy; omega); exact this), (by first | exact o_23c | (have h := o_23c; simpa using h)), hS.pick [2, 0, 3, 4]⟩
     (try rw [List.length_append]); simp; omega
end Go.Proofs.YtbfafebfkdbglaaGreat
