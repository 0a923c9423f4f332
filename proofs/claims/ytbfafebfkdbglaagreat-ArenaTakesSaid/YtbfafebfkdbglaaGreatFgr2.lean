import Derived.Test.YtbfafebfkdbglaaGreatFgr
import Derived.Test.YtbfafebfkdbglaaGreatFlist
/- A ground: announcements and the words behind slots; Lay. -/
namespace Go.Proofs.YtbfafebfkdbglaaGreat
open Go.RowKit
set_option linter.unusedVariables false
attribute [local irreducible] K.KW K.RW K.DW K.OW K.QR K.KC
theorem fillN_k {l : List Nm} (h : ∀ x ∈ l, x.k ≤ 13) : ∀ x ∈ fillN l, x.k ≤ 13 := fun x hx => by
 unfold fillN at hx
 rcases List.mem_append.1 hx with hx | hx
 ·exact h x hx
 ·rw [(List.mem_replicate.1 hx).2]; decide
theorem snoc_k {l : List Nm} {y : Nm} (h : ∀ x ∈ l, x.k ≤ 13) (hy : y.k ≤ 13) : ∀ x ∈ l ++ [y], x.k ≤ 13 := fun x hx => by
 rcases List.mem_append.1 hx with hx | hx
 ·exact h x hx
 ·rw [List.mem_singleton.1 hx]; exact hy
theorem supT_k (i : Nat) : ∀ x ∈ supT i, x.k ≤ 13 := fun x hx => by
 obtain ⟨k, _, rfl⟩ := List.mem_map.1 hx
 show (1 : Int) ≤ 13; decide
theorem headL_k : ∀ x ∈ headL, x.k ≤ 13 := by
 unfold headL
 exact fillN_k (snoc_k (fillN_k (snoc_k (fillN_k (snoc_k (supT_k 16) (by decide))) (by decide))) (by decide))
theorem bkT_k : ∀ j, ∀ x ∈ bkT j, x.k ≤ 13
 | 0 => headL_k
 | j + 1 => snoc_k (bkT_k j) (by show (5 : Int) ≤ 13; decide)
theorem thT_k (c : Cfg) : ∀ j, ∀ x ∈ thT c j, x.k ≤ 13
 | 0 => fillN_k (bkT_k _)
 | j + 1 => fillN_k (snoc_k (snoc_k (thT_k c j) (by show (6 : Int) ≤ 13; decide)) (by show (7 : Int) ≤ 13; decide))
theorem lgI_k {b : List Nm} (t : Nat) (h : ∀ x ∈ b, x.k ≤ 13) : ∀ j, ∀ x ∈ lgI b t j, x.k ≤ 13
 | 0 => h
 | j + 1 => snoc_k (lgI_k t h j) (by show (8 : Int) ≤ 13; decide)
theorem lgT_k (c : Cfg) : ∀ j, ∀ x ∈ lgT c j, x.k ≤ 13
 | 0 => thT_k c _
 | j + 1 => fillN_k (lgI_k _ (lgT_k c j) _)
theorem slI_k {b : List Nm} (s : Nat) (h : ∀ x ∈ b, x.k ≤ 13) : ∀ j, j ≤ 5 → ∀ x ∈ slI b s j, x.k ≤ 13
 | 0, _ => h
 | j + 1, hj => snoc_k (slI_k s h j (by omega)) (by show ((9 + j : Nat) : Int) ≤ 13; omega)
theorem slT_k (c : Cfg) : ∀ j, ∀ x ∈ slT c j, x.k ≤ 13
 | 0 => lgT_k c _
 | j + 1 => fillN_k (slI_k _ (slT_k c j) 5 (by omega))
theorem getD_mem {l : List Nm} {j : Nat} (h : j < l.length) : l.getD j nm0 ∈ l := by simp [h]
theorem lasting_no {c : Cfg} {x : Nm} (h : 14 ≤ x.k) : ∀ j, j < (lasting c).length → ¬ (lasting c).getD j nm0 = x := fun j hj e => by
 have h2 : ((lasting c).getD j nm0).k ≤ 13 := slT_k c _ _ (getD_mem hj)
 rw [e] at h2; omega
theorem psT_get : ∀ (t j : Nat), j < 2 + t → (psT t).getD j nm0 = if j = 0 then ⟨14, 0, 0⟩ else if j = 1 then ⟨15, 0, 0⟩ else ⟨16, ((j - 2 : Nat) : Int), 0⟩
 | 0, j, h => by
  have : j = 0 ∨ j = 1 := by omega
  rcases this with rfl | rfl <;> rfl
 | t + 1, j, h => by
  show (psT t ++ [_]).getD j nm0 = _
  by_cases hj : j < 2 + t
  ·rw [← psT_get t j hj, List.getD_eq_getElem?_getD, List.getD_eq_getElem?_getD, List.getElem?_append_left (by rw [psT_len]; exact hj)]
  ·have : j = 2 + t := by omega
   subst this
   rw [List.getD_eq_getElem?_getD, List.getElem?_append_right (by rw [psT_len]; omega), psT_len, if_neg (by omega), if_neg (by omega)]
   simp
theorem pfT_get (c : Cfg) : ∀ (s j : Nat), j < 2 + c.th.toNat + s → (pfT c s).getD j nm0 = if j < 2 + c.th.toNat then (psT c.th.toNat).getD j nm0 else ⟨17, ((j - (2 + c.th.toNat) : Nat) : Int), 0⟩
 | 0, j, h => by rw [if_pos (by omega)]; rfl
 | s + 1, j, h => by
  show (pfT c s ++ [_]).getD j nm0 = _
  by_cases hj : j < 2 + c.th.toNat + s
  ·rw [← pfT_get c s j hj, List.getD_eq_getElem?_getD, List.getD_eq_getElem?_getD, List.getElem?_append_left (by rw [pfT_len]; exact hj)]
  ·have : j = 2 + c.th.toNat + s := by omega
   subst this
   rw [List.getD_eq_getElem?_getD, List.getElem?_append_right (by rw [pfT_len]; omega), pfT_len, if_neg (by omega)]
   simp
theorem pass_len (c : Cfg) : (passing c).length = 2 + c.th.toNat + c.sl.toNat := pfT_len c _
theorem pass_get {c : Cfg} {j : Nat} (h : j < (passing c).length) : (passing c).getD j nm0 = if j = 0 then ⟨14, 0, 0⟩ else if j = 1 then ⟨15, 0, 0⟩ else if j < 2 + c.th.toNat then ⟨16, ((j - 2 : Nat) : Int), 0⟩ else ⟨17, ((j - (2 + c.th.toNat) : Nat) : Int), 0⟩ := by
 rw [pass_len] at h
 unfold passing
 rw [pfT_get c _ j h]
 by_cases h1 : j < 2 + c.th.toNat
 ·rw [if_pos h1, psT_get _ _ h1, if_pos h1]
 ·rw [if_neg h1, if_neg h1, if_neg (by omega), if_neg (by omega)]
theorem at_ann {c : Cfg} (hc : cfgOk c) (t : Int) : atT (lasting c) (passing c) ⟨16, t, 0⟩ = annS c t := by
 have hL := first_no (lasting_no (c := c) (x := ⟨16, t, 0⟩) (by show (14 : Int) ≤ 16; decide)) (Nat.le_refl _)
 have hl := lasting_len hc
 have hpl := pass_len c
 unfold atT
 rw [hL, if_neg (by omega)]
 unfold annS
 have hcc := hc
 unfold cfgOk at hcc
 by_cases h : 0 ≤ t ∧ t < c.th
 ·have := first_at (l := passing c) (x := ⟨16, t, 0⟩) (i := 2 + t.toNat) (fun j hj e => by
   rw [pass_get (by omega)] at e
   (repeat' split at e) <;> simp at e <;> omega) (by omega) (by
   rw [pass_get (by omega), if_neg (by omega), if_neg (by omega), if_pos (by omega)]; simp; omega)
  rw [this, if_pos (by omega), if_pos h]; omega
 ·have := first_no (l := passing c) (x := ⟨16, t, 0⟩) (i := (passing c).length) (fun j hj e => by
   rw [pass_get hj] at e
   (repeat' split at e) <;> simp at e <;> omega) (Nat.le_refl _)
  rw [this, if_neg (by omega), if_neg h]; exact hl
theorem at_aft {c : Cfg} (hc : cfgOk c) (t : Int) : atT (lasting c) (passing c) ⟨17, t, 0⟩ = aftS c t := by
 have hL := first_no (lasting_no (c := c) (x := ⟨17, t, 0⟩) (by show (14 : Int) ≤ 17; decide)) (Nat.le_refl _)
 have hl := lasting_len hc
 have hpl := pass_len c
 unfold atT
 rw [hL, if_neg (by omega)]
 unfold aftS
 have hcc := hc
 unfold cfgOk at hcc
 by_cases h : 0 ≤ t ∧ t < c.sl
 ·have := first_at (l := passing c) (x := ⟨17, t, 0⟩) (i := 2 + c.th.toNat + t.toNat) (fun j hj e => by
   rw [pass_get (by omega)] at e
   (repeat' split at e) <;> simp at e <;> omega) (by omega) (by
   rw [pass_get (by omega), if_neg (by omega), if_neg (by omega), if_neg (by omega)]; simp; omega)
  rw [this, if_pos (by omega), if_pos h]; omega
 ·have := first_no (l := passing c) (x := ⟨17, t, 0⟩) (i := (passing c).length) (fun j hj e => by
   rw [pass_get hj] at e
   (repeat' split at e) <;> simp at e <;> omega) (Nat.le_refl _)
  rw [this, if_neg (by omega), if_neg h]; exact hl
/-- a block that was made -/
theorem bnew {w0 w w' : World} {ls : List K.Cs} {b : Nat} {t : TypeId} {cs : List Value} (h : K.Sat w0 ls w) (hc : K.Chg K.No w w') (hb : w.heap.size ≤ b) (hB : K.Blk w' b t cs) : K.Sat w0 ([K.pt b t cs] :: ls) w' :=
 h.add hc _ (by simp [K.ids]) fun c hm => by rw [List.mem_singleton.1 hm]; exact ⟨hb, hB⟩
abbrev layPt (b : Nat) (c : Cfg) : K.Cs := [K.pt b 189 [K.iv c.th, K.iv c.sl, K.iv c.lo, K.iv c.bu, K.iv (tFirst c), K.iv (lFirst c), K.iv (lsz c), K.iv (sFirst c), K.iv (lns c)]]
theorem ofG_ok (w0 : World) (c : Cfg) (hc : cfgOk c) : K.GC Tryz.prog w0 60 #[.agg #[K.iv c.th, K.iv c.sl, K.iv c.lo, K.iv c.bu]] [] (fun v post => ∃ b g, v = .tuple #[K.pa b, K.iv 0] ∧ post = [g] ∧ g = layPt b c) := fun fr w hS => by
 refine K.KC.mono (of_ok c w) ?_
 rintro v w' (⟨b, rfl, _, hch, hb, hl⟩ | ⟨rfl, h, _⟩)
 ·exact ⟨[layPt b c], ⟨b, _, rfl, rfl, rfl⟩, bnew hS hch hb hl⟩
 ·exact absurd hc h
set_option maxHeartbeats 1000000 in
set_option maxRecDepth 100000 in
theorem dvOpenR_ok (w0 : World) (a : Option Addr) (cap : Nat) (xs : List Int) (t : Int) (ht : 1 ≤ t ∧ t ≤ 64) (hm : xs.length ≤ 9223372036854775807) (hc : xs.length ≤ cap) (gx : K.Cs) (hx : ∀ w, K.Sat w0 [gx] w → K.RowE w a xs.length 1 (fun i => cU64 (xs.getD i 0))) :
  K.GC Tryz.prog w0 63 #[.slice a xs.length cap, K.iv t] [gx] (fun v post => (∃ p n l', v = .tuple #[K.pa p, K.iv 0] ∧ post = [gx, l'] ∧ DevAt l' p n t.toNat (DevM.fresh xs n t.toNat) ∧ xs.length = n * 8 ∧ mayOpenM xs.length t = 0) ∨ (v = .tuple #[.pointer none, K.iv (mayOpenM xs.length t)] ∧ post = [gx] ∧ ¬ mayOpenM xs.length t = 0)) := by
 refine K.GC.mk (n := 27) Tryz.func63 rfl rfl [.slice a xs.length cap, K.iv t] rfl rfl ?_
 intro fr w hS
 replace hS : K.Sat w0 [gx, fr] w := hS
 refine K.s (K.g (K.q [.pointer none, K.iv 0] (K.z (K.t (K.s (K.s (K.g (K.q [K.iv t] ?_))))))))
 refine K.l (K.OW.gcall hS [] [0, 1] [K.iv t] (tMay_ok _ t (by omega)) ?_)
 clear hS; rintro _ _ w ⟨rfl, (⟨rfl, h_1⟩ | ⟨rfl, h_2⟩)⟩ hS
 ·
  replace hS : K.Sat w0 [gx, fr] w := hS
  refine K.q [.bool false] (K.z (K.t (K.f (K.k (K.t (K.s (K.g (K.q [.slice a xs.length cap] ?_))))))))
  refine K.l (K.OW.kcall hS [.slice a xs.length cap] (cutW_ok _ _ xs _ (by omega) (by omega) (hx _ (hS.pick [0]))) ?_)
  rintro _ w ⟨r_3, m_4, cc_5, rfl, c_6, q_7⟩
  by_cases h_8 : (mayR xs.length 8) = 0
  ·
   obtain ⟨o_9, ln_10, hm_11⟩ := q_7 h_8
   rw [h_8]
   obtain ⟨l_12, o_13, hS⟩ := hS.rnew c_6 o_9 (by omega)
   refine K.q [.tuple #[.slice r_3 m_4 cc_5, K.iv 0], .slice r_3 m_4 cc_5, K.iv 0, .slice r_3 m_4 cc_5, K.iv 0] (K.z (K.t (K.s ?_)))
   refine K.KW.block ?_
   refine K.s (K.g (K.q [K.iv 0, .bool false, .bool false] (K.z (K.t (K.f (K.s (K.g (K.q [.slice r_3 m_4 cc_5] ?_))))))))
   refine K.a (K.QR.len (P := Tryz.prog) rfl rfl Tryz.underlying177) ?_
   by_cases h_14 : (((m_4 : Nat) : Int) : Int) = (0 : Int)
   ·
    refine K.ye (((m_4 : Nat) : Int) : Int) (0 : Int) h_14 ?_
    refine K.q [.bool true] (K.z (K.t (K.h (K.s (K.g (K.q [.pointer none, K.iv 3] (K.z (K.t (K.r ?_)))))))))
    refine K.blk_ret ?_
    refine K.u ?_
    refine ⟨.inr rfl, rfl, (.tuple #[.pointer none, K.iv 3]), K.res2 rfl rfl rfl, [gx], ?_, hS.pick [1, 2]⟩
    exact .inr ⟨by rw [mayOpen_zero (by omega) (by omega)], rfl, by rw [mayOpen_zero (by omega) (by omega)]; omega⟩
   ·
    refine K.xe (((m_4 : Nat) : Int) : Int) (0 : Int) h_14 ?_
    refine K.q [.bool false] (K.z (K.t (K.f (K.k ?_))))
    refine K.blk_normal ?_
    refine K.t (K.s (K.g (K.q [.slice r_3 m_4 cc_5] ?_)))
    refine K.a (K.QR.turn (v := K.iv t) (K.QR.k (v := K.iv t) (by kernel_rfl)) (congrArg (Value.int .i64) (show (t : Int) = (((t.toNat : Nat) : Int) : Int) from by omega))) ?_
    refine K.l (K.OW.gcall hS [0] [1, 2] [.slice r_3 m_4 cc_5, K.iv ((t.toNat : Nat) : Int)] (dvMade_ok _ _ _ _ _ _ _ ln_10 (by omega) (by omega) o_13) ?_)
    clear hS; rintro _ _ w ⟨p_15, l_16, rfl, rfl, x_17⟩ hS
    replace hS : K.Sat w0 [l_16, gx, fr] w := hS
    refine K.q [K.pa p_15, K.iv 0] (K.z (K.t (K.r ?_)))
    refine ⟨.inr rfl, rfl, (.tuple #[K.pa p_15, K.iv 0]), K.res2 rfl rfl rfl, [gx, l_16], ?_, hS.pick [1, 0, 2]⟩
    exact .inl ⟨_, _, _, rfl, rfl, x_17, by omega, mayOpen_ok (by omega) (by omega) (by assumption)⟩
  ·
   replace hS := hS.no c_6
   refine K.q [.tuple #[.slice r_3 m_4 cc_5, K.iv (mayR xs.length 8)], .slice r_3 m_4 cc_5, K.iv (mayR xs.length 8), .slice r_3 m_4 cc_5, K.iv (mayR xs.length 8)] (K.z (K.t (K.s ?_)))
   refine K.KW.block ?_
   refine K.s (K.g (K.q [K.iv (mayR xs.length 8)] ?_))
   refine K.yn ((mayR xs.length 8) : Int) (0 : Int) h_8 ?_
   refine K.q [.bool true] (K.z (K.t (K.h (K.s (K.g (K.q [K.iv (mayR xs.length 8), .pointer none, K.iv (mayR xs.length 8)] (K.z (K.t (K.r ?_)))))))))
   refine K.blk_ret ?_
   refine K.u ?_
   refine ⟨.inr rfl, rfl, (.tuple #[.pointer none, K.iv (mayR xs.length 8)]), K.res2 rfl rfl rfl, [gx], ?_, hS.pick [0, 1]⟩
   exact .inr ⟨by rw [mayOpen_cut (by omega) (by assumption)], rfl, by rw [mayOpen_cut (by omega) (by assumption)]; assumption⟩
 ·
  replace hS : K.Sat w0 [gx, fr] w := hS
  refine K.q [.bool true] (K.z (K.t (K.h (K.s (K.g (K.q [.pointer none, K.iv 1] (K.z (K.t (K.r (K.u ?_))))))))))
  refine ⟨.inr rfl, rfl, (.tuple #[.pointer none, K.iv 1]), K.res2 rfl rfl rfl, [gx], ?_, hS.pick [0, 1]⟩
  exfalso; omega
theorem dvOpenR_okm (w0 : World) (a : Option Addr) (m cap : Nat) (xs : List Int) (t : Int) (ht : 1 ≤ t ∧ t ≤ 64) (hm : m ≤ 9223372036854775807) (hc : m ≤ cap) (lx : xs.length = m) (gx : K.Cs) (hx : ∀ w, K.Sat w0 [gx] w → K.RowE w a xs.length 1 (fun i => cU64 (xs.getD i 0))) :
  K.GC Tryz.prog w0 63 #[.slice a m cap, K.iv t] [gx] (fun v post => (∃ p n l', v = .tuple #[K.pa p, K.iv 0] ∧ post = [gx, l'] ∧ DevAt l' p n t.toNat (DevM.fresh xs n t.toNat) ∧ m = n * 8 ∧ mayOpenM m t = 0) ∨ (v = .tuple #[.pointer none, K.iv (mayOpenM m t)] ∧ post = [gx] ∧ ¬ mayOpenM m t = 0)) := by
 subst lx
 exact dvOpenR_ok w0 a cap xs t ht hm hc gx hx
theorem mayOpen_good {m : Nat} {t L : Int} (h : (m : Int) = L * 8) (hL : 1 ≤ L ∧ L ≤ 262144) (ht : 1 ≤ t ∧ t ≤ 64) : mayOpenM m t = 0 := by
 unfold mayOpenM
 rw [if_neg (by omega), if_neg (by omega), if_neg (by omega), if_neg (by omega)]
/-- words are put -/
def putsT (n : Nat) (M : MemM) (ps : List PutM) : MemM := ps.foldl (fun M p => (M.accS n 0 p.at_ p.w).1) M
theorem putsT_next {n : Nat} {M : MemM} {ps : List PutM} {j : Nat} (h : j < ps.length) : putsT n M (ps.take (j + 1)) = ((putsT n M (ps.take j)).accS n 0 (ps.getD j pu0).at_ (ps.getD j pu0).w).1 := by
 unfold putsT
 rw [List.take_succ_eq_append_getElem h, List.foldl_append]
 simp [h]
/-- the memory of a ground -/
def groundM (n t k : Nat) (ps : List PutM) : MemM := putsT n (MemM.of (DevM.fresh (List.replicate (n * 8) 0) n t) k) ps
theorem mdSeen_ok (w0 : World) (p q n t : Nat) (M : MemM) (l : K.Cs) (x : MemAt l p q n t M) :
  K.GC Tryz.prog w0 68 #[K.pa q] [l] (fun v post => ∃ r c l2, v = .slice r M.dev.seen.length c ∧ post = [l, l2] ∧ K.OwnG l2 57 1 r M.dev.seen.length c (M.dev.seen.flatMap cU64)) := by
 obtain ⟨mg, mp, md, pa, np, cp, rfl, hmg, hmp, hmd, hnp, hn18⟩ := x
 refine (K.GC.in3 (dvSeen_ok w0 q n t M.dev md hmd) (by rintro v post ⟨_, _, _, _, rfl, _⟩; exact ⟨_, _, rfl⟩)).mono ?_
 rintro v post ⟨md', rest, ⟨r, c, l2, rfl, h, ho⟩, rfl⟩
 cases h
 exact ⟨r, c, l2, rfl, rfl, ho⟩
set_option maxHeartbeats 1000000 in
set_option maxRecDepth 100000 in
theorem lay_ok (w0 : World) (c : Cfg) (pa : Option Addr) (cp : Nat) (ps : List PutM) (hg : ∀ j, j < ps.length → isInt (ps.getD j pu0).at_) (gp : K.Cs) (xp : ∀ w, K.Sat w0 [gp] w → K.RowE w pa ps.length 2 (fun i => cPut (ps.getD i pu0))) :
  K.GC Tryz.prog w0 13 #[.agg #[K.iv c.th, K.iv c.sl, K.iv c.lo, K.iv c.bu, .slice pa ps.length cp]] [gp] (fun v post => (∃ b p q r u n k gl l m, v = .tuple #[K.pa b, K.pa p, K.pa r, .bool true] ∧ post = [gp, gl, l, m] ∧ gl = layPt b c ∧ MemAt l p q n c.th.toNat (groundM n c.th.toNat k ps) ∧ RMemAt m r u n c.th.toNat (groundM n c.th.toNat k ps) ∧ n = (lns c).toNat ∧ k = (2 + c.th + c.sl).toNat ∧ fewC c ∧ ps.length ≤ 100) ∨ (v = .tuple #[.pointer none, .pointer none, .pointer none, .bool false] ∧ post = [gp] ∧ ¬ (fewC c ∧ ps.length ≤ 100))) := by
 refine K.GC.mk (n := 119) Tryz.func13 rfl rfl [.agg #[K.iv c.th, K.iv c.sl, K.iv c.lo, K.iv c.bu, .slice pa ps.length cp]] rfl rfl ?_
 intro fr w hS
 replace hS : K.Sat w0 [gp, fr] w := hS
 refine K.s (K.g ?_)
 refine K.l (K.OW.gnew 38 [K.iv c.th, K.iv c.sl, K.iv c.lo, K.iv c.bu, .slice pa ps.length cp] hS ?_)
 clear hS; intro w r_1 g_2 hg_3 hS
 refine K.q [.pointer none, .pointer none, .pointer none, .bool false] (K.z (K.t (K.s (K.g (K.q [K.pa r_1] ?_)))))
 refine K.a (K.QR.ldN [K.iv c.th, K.iv c.sl, K.iv c.lo, K.iv c.bu] rfl rfl (by kernel_rfl) (by kernel_rfl) (K.cells (K.cl ((hS.blk 0 rfl hg_3).cell rfl) (K.cl ((hS.blk 0 rfl hg_3).cell rfl) (K.cl ((hS.blk 0 rfl hg_3).cell rfl) (K.cl ((hS.blk 0 rfl hg_3).cell rfl) K.cl0)))))) ?_
 refine K.l (K.OW.gnew 23 [K.iv 0, K.iv 0, K.iv 0, K.iv 0] hS ?_)
 clear hS; intro w r_4 g_5 hg_6 hS
 refine K.l (K.OW.gst 0 [K.iv c.th, K.iv c.sl, K.iv c.lo, K.iv c.bu] _ hS hg_6 ?_)
 clear hS; intro w g_7 hg_8 hS
 replace hS : K.Sat w0 [g_7, g_2, gp, fr] w := hS
 refine K.z (K.t (K.s (K.s (K.g ?_))))
 refine K.a (K.QR.ldN [K.iv c.th, K.iv c.sl, K.iv c.lo, K.iv c.bu] rfl rfl (by kernel_rfl) (by kernel_rfl) (K.cells (K.cl ((hS.blk 0 rfl hg_8).cell rfl) (K.cl ((hS.blk 0 rfl hg_8).cell rfl) (K.cl ((hS.blk 0 rfl hg_8).cell rfl) (K.cl ((hS.blk 0 rfl hg_8).cell rfl) K.cl0)))))) ?_
 refine K.l (K.OW.gcall hS [] [0, 1, 2, 3] [.agg #[K.iv c.th, K.iv c.sl, K.iv c.lo, K.iv c.bu]] (few09_ok _ c) ?_)
 clear hS; rintro _ _ w ⟨rfl, (⟨rfl, h_9⟩ | ⟨rfl, h_10⟩)⟩ hS
 ·
  replace hS : K.Sat w0 [g_7, g_2, gp, fr] w := hS
  have hc_11 := h_9.1
  obtain ⟨hf_12, hf_13, hf_14, hf_15, hf_16⟩ := (show _ from (by have h := h_9; unfold fewC cfgOk at h; exact h))
  refine K.q [.bool false, .bool false, .pointer (some ⟨r_1, 4, none⟩)] ?_
  refine K.d (.slice pa ps.length cp) ((hS.blk 1 rfl hg_3).cell rfl) ?_
  refine K.a (K.QR.len (P := Tryz.prog) rfl rfl Tryz.underlying36) ?_
  by_cases h_17 : (((ps.length : Nat) : Int) : Int) > (100 : Int)
  ·
   refine K.y ((((ps.length : Nat) : Int) : Int) > (100 : Int)) h_17 ?_
   refine K.q [.bool true] (K.z (K.t (K.h (K.s (K.g (K.q [.pointer none, .pointer none, .pointer none, .bool false] (K.z (K.t (K.r (K.u ?_))))))))))
   refine ⟨.inr rfl, rfl, (.tuple #[.pointer none, .pointer none, .pointer none, .bool false]), K.resAt (rs := [.tmp 2, .tmp 3, .tmp 4, .tmp 5]) [.pointer none, .pointer none, .pointer none, .bool false] rfl ⟨rfl, rfl, rfl, rfl, trivial⟩, [gp], ?_, hS.pick [2, 3]⟩
   exact .inr ⟨rfl, rfl, fun h => by first | exact absurd h.1 (by assumption) | (have h2 := h.2; omega)⟩
  ·
   refine K.x ((((ps.length : Nat) : Int) : Int) > (100 : Int)) h_17 ?_
   refine K.q [.bool false] (K.z (K.t (K.f (K.k (K.t (K.s (K.g ?_)))))))
   refine K.a (K.QR.ldN [K.iv c.th, K.iv c.sl, K.iv c.lo, K.iv c.bu] rfl rfl (by kernel_rfl) (by kernel_rfl) (K.cells (K.cl ((hS.blk 0 rfl hg_8).cell rfl) (K.cl ((hS.blk 0 rfl hg_8).cell rfl) (K.cl ((hS.blk 0 rfl hg_8).cell rfl) (K.cl ((hS.blk 0 rfl hg_8).cell rfl) K.cl0)))))) ?_
   refine K.l (K.OW.gcall hS [] [0, 1, 2, 3] [.agg #[K.iv c.th, K.iv c.sl, K.iv c.lo, K.iv c.bu]] (ofG_ok _ c (by assumption)) ?_)
   clear hS; rintro _ _ w ⟨b_18, g_19, rfl, rfl, h_20⟩ hS
   replace hS : K.Sat w0 [g_19, g_7, g_2, gp, fr] w := hS
   refine K.q [.tuple #[K.pa b_18, K.iv 0], K.pa b_18, K.iv 0, K.pa b_18, K.iv 0] (K.z (K.t (K.s ?_)))
   have hlb := lay_bd (c := c) (by assumption)
   refine K.g ?_
   refine K.a (K.QR.ldN [K.iv c.th, K.iv c.sl, K.iv c.lo, K.iv c.bu] rfl rfl (by kernel_rfl) (by kernel_rfl) (K.cells (K.cl ((hS.blk 1 rfl hg_8).cell rfl) (K.cl ((hS.blk 1 rfl hg_8).cell rfl) (K.cl ((hS.blk 1 rfl hg_8).cell rfl) (K.cl ((hS.blk 1 rfl hg_8).cell rfl) K.cl0)))))) ?_
   refine K.l (K.OW.kcall hS [.agg #[K.iv c.th, K.iv c.sl, K.iv c.lo, K.iv c.bu]] (lasting_ok c _ (by assumption)) ?_)
   rintro _ w ⟨r_21, m_22, cc_23, rfl, c_24, o_25, l_26⟩
   obtain ⟨l_27, o_28, hS⟩ := hS.rnew c_24 o_25 (by omega)
   have hq_29 := lasting_len (c := c) (by assumption)
   refine K.a (K.QR.len (P := Tryz.prog) rfl rfl Tryz.underlying123) ?_
   refine K.l (K.OW.gmk (P := Tryz.prog) (m := m_22) (cc := cU64) (z := .int .u64 0) (size := 1) (bytes := 8) (0 : Int) hS ?_ Tryz.underlying78 (by kernel_rfl) rfl rfl (by unfold maxLen; omega) (by omega))
   clear hS; intro w r_30 l_31 o_32 hS
   refine K.q [.slice (some ⟨r_30, 0, none⟩) m_22 m_22] (K.z (K.t (K.s (K.g ?_))))
   refine K.a (K.QR.ldN [K.iv c.th, K.iv c.sl, K.iv c.lo, K.iv c.bu] rfl rfl (by kernel_rfl) (by kernel_rfl) (K.cells (K.cl ((hS.blk 3 rfl hg_8).cell rfl) (K.cl ((hS.blk 3 rfl hg_8).cell rfl) (K.cl ((hS.blk 3 rfl hg_8).cell rfl) (K.cl ((hS.blk 3 rfl hg_8).cell rfl) K.cl0)))))) ?_
   refine K.l (K.OW.kcall hS [.agg #[K.iv c.th, K.iv c.sl, K.iv c.lo, K.iv c.bu]] (passing_ok c _ (by assumption)) ?_)
   rintro _ w ⟨r_33, m_34, cc_35, rfl, c_36, o_37, l_38⟩
   obtain ⟨l_39, o_40, hS⟩ := hS.rnew c_36 o_37 (by omega)
   have hq_41 := passing_len (c := c) (by assumption)
   refine K.a (K.QR.len (P := Tryz.prog) rfl rfl Tryz.underlying123) ?_
   refine K.q [K.iv ((m_34 : Nat) : Int)] (K.z (K.t (K.s ?_)))
   have hmay := mayOpen_good (m := m_22) (t := c.th) (L := lns c) (by omega) (by omega) (by omega)
   refine K.g (K.q [.slice (some ⟨r_30, 0, none⟩) m_22 m_22, K.pa r_4] ?_)
   refine K.d (K.iv c.th) ((hS.blk 4 rfl hg_8).cell rfl) ?_
   refine K.l (K.OW.gcall hS [1] [0, 2, 3, 4, 5, 6, 7] [.slice (some ⟨r_30, 0, none⟩) m_22 m_22, K.iv c.th] (dvOpenR_okm _ _ _ _ (List.replicate m_22 (0 : Int)) c.th (by omega) (by omega) (by omega) (List.length_replicate : ((List.replicate m_22 (0 : Int))).length = m_22) _ (fun w h => K.RowE.len (K.Own.rowE 0 (h.ownr 0 rfl o_32) (List.length_replicate : ((List.replicate m_22 (0 : Int))).length = m_22) (fun _ => rfl)) (List.length_replicate : ((List.replicate m_22 (0 : Int))).length = m_22))) ?_)
   clear hS; rintro _ _ w (⟨p_42, n_43, l_44, rfl, rfl, x_45, hn_46, hm_47⟩ | ⟨rfl, rfl, h_48⟩) hS
   ·
    replace hS : K.Sat w0 [l_31, l_44, l_39, l_27, g_19, g_7, g_2, gp, fr] w := hS
    obtain ⟨_, _, _, _, _, hn_49, hn_50, _, _⟩ := DevAt.isok x_45
    refine K.q [.tuple #[K.pa p_42, K.iv 0], K.pa p_42, K.iv 0, K.pa p_42, K.iv 0] (K.z (K.t (K.s (K.g (K.q [K.pa p_42, K.iv ((m_34 : Nat) : Int)] ?_)))))
    refine K.l (K.OW.gcall hS [1] [0, 2, 3, 4, 5, 6, 7, 8] [K.pa p_42, K.iv ((m_34 : Nat) : Int)] (mNew_ok _ _ _ _ _ _ x_45 ((m_34 : Nat) : Int) (by omega)) ?_)
    clear hS; rintro _ _ w (⟨p_51, l_52, rfl, rfl, x_53, h_54⟩ | ⟨rfl, h_55, rfl⟩) hS
    ·
     replace hS : K.Sat w0 [l_52, l_31, l_39, l_27, g_19, g_7, g_2, gp, fr] w := hS
     refine K.q [.tuple #[K.pa p_51, K.iv 0], K.pa p_51, K.iv 0, K.pa p_51, K.iv 0] (K.z (K.t (K.s (K.g (K.q [.slice (some ⟨r_30, 0, none⟩) m_22 m_22, K.pa r_4] ?_)))))
     refine K.d (K.iv c.th) ((hS.blk 5 rfl hg_8).cell rfl) ?_
     refine K.q [K.iv ((m_34 : Nat) : Int)] ?_
     refine K.l (K.OW.gcall hS [1] [0, 2, 3, 4, 5, 6, 7, 8] [.slice (some ⟨r_30, 0, none⟩) m_22 m_22, K.iv c.th, K.iv ((m_34 : Nat) : Int)] (rmNew_ok _ _ _ _ n_43 (List.replicate m_22 (0 : Int)) c.th ((m_34 : Nat) : Int) (by omega) (by omega) (List.length_replicate : ((List.replicate m_22 (0 : Int))).length = m_22) (by omega) (by omega) _ (fun w h => K.RowE.len (K.Own.rowE 0 (h.ownr 0 rfl o_32) (List.length_replicate : ((List.replicate m_22 (0 : Int))).length = m_22) (fun _ => rfl)) (List.length_replicate : ((List.replicate m_22 (0 : Int))).length = m_22))) ?_)
     clear hS; rintro _ _ w ⟨p_56, q_57, l_58, rfl, rfl, x_59⟩ hS
     replace hS : K.Sat w0 [l_31, l_58, l_52, l_39, l_27, g_19, g_7, g_2, gp, fr] w := hS
     refine K.q [K.pa p_56] (K.z (K.t (K.s (K.s (K.g (K.q [K.iv 0] (K.z (K.t ?_))))))))
     refine K.KW.block ?_
     refine K.KW.loop (fun m_ F_ w_ => ∃ (j : Nat) (l1 : K.Cs) (m1 : K.Cs), m_ = ps.length - j ∧ K.Sl F_ [(0, .agg #[K.iv c.th, K.iv c.sl, K.iv c.lo, K.iv c.bu, .slice pa ps.length cp]), (1, K.pa r_1), (2, .pointer none), (3, .pointer none), (4, .pointer none), (5, .bool false), (7, K.pa b_18), (8, K.iv 0), (9, .slice (some ⟨r_30, 0, none⟩) m_22 m_22), (12, K.iv 0), (13, K.pa p_51), (14, K.iv 0), (15, K.pa p_56), (16, K.iv ((j : Nat) : Int)), (119, undef)] ∧ j ≤ ps.length ∧ MemAt l1 p_51 p_42 n_43 c.th.toNat (putsT n_43 (MemM.of (DevM.fresh (List.replicate m_22 (0 : Int)) n_43 c.th.toNat) m_34) (ps.take j)) ∧ RMemAt m1 p_56 q_57 n_43 c.th.toNat (putsT n_43 (MemM.of (DevM.fresh (List.replicate m_22 (0 : Int)) n_43 c.th.toNat) m_34) (ps.take j)) ∧ K.Sat w0 [l_31, m1, l1, l_39, l_27, g_19, g_7, g_2, gp, fr] w_) ((fun (j : Nat) => ps.length - j) 0) ?_ ?_
     ·
      exact ⟨0, l_52, l_58, rfl, ⟨by rfl, by rfl, by rfl, by rfl, by rfl, by rfl, by rfl, by rfl, by rfl, by rfl, by rfl, by rfl, by rfl, by rfl, by rfl, trivial⟩, (by omega), x_53, x_59, hS.pick [0, 1, 2, 3, 4, 5, 6, 7, 8, 9]⟩
     ·
      clear hS
      intro m_60 F_61 w hI
      obtain ⟨j, l1, m1, rfl, sl_62, p_63, x_64, x_65, hS⟩ := hI
      rw [← K.Sl.puts sl_62]; clear sl_62
      refine K.s (K.s (K.g (K.q [K.iv ((j : Nat) : Int), .pointer (some ⟨r_1, 4, none⟩)] ?_)))
      refine K.d (.slice pa ps.length cp) ((hS.blk 7 rfl hg_3).cell rfl) ?_
      refine K.a (K.QR.len (P := Tryz.prog) rfl rfl Tryz.underlying36) ?_
      by_cases h_66 : (((j : Nat) : Int) : Int) < (((ps.length : Nat) : Int) : Int)
      ·
       refine K.y ((((j : Nat) : Int) : Int) < (((ps.length : Nat) : Int) : Int)) h_66 ?_
       refine K.z (K.t (K.h (K.k (K.t (K.s ?_)))))
       refine K.KW.block ?_
       refine K.s ?_
       have hgj := hg j (by omega)
       obtain ⟨b_67, of_68, rfl, _⟩ := (xp _ (hS.pick [8])).at_ (by omega)
       refine K.KW.gdrawn [7, 8] hS (by kernel_rfl) ?_
       clear hS; intro w hS
       refine K.p 0 rfl (K.pa p_51) (hS.pick [7, 8]) ?_
       refine K.p 1 rfl (.pointer (some ⟨r_1, 4, none⟩)) (hS.pick [7, 8]) ?_
       refine K.o_ 2 rfl (.slice (some ⟨b_67, of_68, none⟩) ps.length cp) (fun w hS => ((hS.blk 0 rfl hg_3).cell rfl)) (hS.pick [7, 8]) ?_
       refine K.p 3 rfl (K.iv ((j : Nat) : Int)) (hS.pick [7, 8]) ?_
       refine K.m 4 rfl (fun w hS => K.QR.ix (of_68 + j * 2) 2 rfl rfl rfl Tryz.underlying36 (by kernel_rfl) (by omega) (by first | (simp; done) | omega | (simp; omega))) (hS.pick [7, 8]) ?_
       refine K.p 5 rfl (.pointer (some ⟨b_67, of_68 + j * 2, none⟩)) (hS.pick [7, 8]) ?_
       refine K.o_ 6 rfl (K.iv ((ps.getD j pu0).at_)) (fun w hS => ((xp _ (hS.pick [1])).ld j (by omega) 0 _ rfl)) (hS.pick [7, 8]) ?_
       refine K.p 7 rfl (.pointer (some ⟨r_1, 4, none⟩)) (hS.pick [7, 8]) ?_
       refine K.o_ 8 rfl (.slice (some ⟨b_67, of_68, none⟩) ps.length cp) (fun w hS => ((hS.blk 0 rfl hg_3).cell rfl)) (hS.pick [7, 8]) ?_
       refine K.b 9 rfl (K.iv ((j : Nat) : Int)) (hS.pick [7, 8]) ?_
       refine K.c 10 rfl (K.QR.ix (of_68 + j * 2) 2 rfl rfl rfl Tryz.underlying36 (by kernel_rfl) (by omega) (by first | (simp; done) | omega | (simp; omega))) (hS.pick [7, 8]) ?_
       refine K.b 11 rfl (.pointer (some ⟨b_67, of_68 + j * 2 + 1, none⟩)) (hS.pick [7, 8]) ?_
       refine K.c 12 rfl (K.QR.ld1 (v := .int .u64 ((ps.getD j pu0).w)) rfl rfl (by kernel_rfl) ((xp _ (hS.pick [8])).ld j (by omega) 1 _ rfl)) (hS.pick [7, 8]) ?_
       refine K.DW.l 13 rfl (by kernel_rfl) rfl (K.OW.gcall hS [2] [0, 1, 3, 4, 5, 6, 7, 8, 9] [K.pa p_51, K.iv 0, K.iv ((ps.getD j pu0).at_), .int .u64 ((ps.getD j pu0).w)] (mStore_ok _ _ _ _ _ _ _ x_64 0 ((ps.getD j pu0).at_) (by omega) ((ps.getD j pu0).w)) ?_)
       clear hS; rintro _ _ w ⟨l_69, rfl, rfl, x_70⟩ hS
       replace hS : K.Sat w0 [l_69, l_31, m1, l_39, l_27, g_19, g_7, g_2, gp, fr] w := hS
       refine ⟨.inl (hS.pick [7, 8]), ?_⟩
       refine K.DW.done (by kernel_rfl) ?_
       refine K.t ?_
       have hgj := hg j (by omega)
       refine K.KW.gdrawn [7, 8] hS (by kernel_rfl) ?_
       clear hS; intro w hS
       refine K.p 0 rfl (K.pa p_56) (hS.pick [7, 8]) ?_
       refine K.p 1 rfl (.pointer (some ⟨r_1, 4, none⟩)) (hS.pick [7, 8]) ?_
       refine K.o_ 2 rfl (.slice (some ⟨b_67, of_68, none⟩) ps.length cp) (fun w hS => ((hS.blk 0 rfl hg_3).cell rfl)) (hS.pick [7, 8]) ?_
       refine K.p 3 rfl (K.iv ((j : Nat) : Int)) (hS.pick [7, 8]) ?_
       refine K.m 4 rfl (fun w hS => K.QR.ix (of_68 + j * 2) 2 rfl rfl rfl Tryz.underlying36 (by kernel_rfl) (by omega) (by first | (simp; done) | omega | (simp; omega))) (hS.pick [7, 8]) ?_
       refine K.p 5 rfl (.pointer (some ⟨b_67, of_68 + j * 2, none⟩)) (hS.pick [7, 8]) ?_
       refine K.o_ 6 rfl (K.iv ((ps.getD j pu0).at_)) (fun w hS => ((xp _ (hS.pick [1])).ld j (by omega) 0 _ rfl)) (hS.pick [7, 8]) ?_
       refine K.p 7 rfl (.pointer (some ⟨r_1, 4, none⟩)) (hS.pick [7, 8]) ?_
       refine K.o_ 8 rfl (.slice (some ⟨b_67, of_68, none⟩) ps.length cp) (fun w hS => ((hS.blk 0 rfl hg_3).cell rfl)) (hS.pick [7, 8]) ?_
       refine K.b 9 rfl (K.iv ((j : Nat) : Int)) (hS.pick [7, 8]) ?_
       refine K.c 10 rfl (K.QR.ix (of_68 + j * 2) 2 rfl rfl rfl Tryz.underlying36 (by kernel_rfl) (by omega) (by first | (simp; done) | omega | (simp; omega))) (hS.pick [7, 8]) ?_
       refine K.b 11 rfl (.pointer (some ⟨b_67, of_68 + j * 2 + 1, none⟩)) (hS.pick [7, 8]) ?_
       refine K.c 12 rfl (K.QR.ld1 (v := .int .u64 ((ps.getD j pu0).w)) rfl rfl (by kernel_rfl) ((xp _ (hS.pick [8])).ld j (by omega) 1 _ rfl)) (hS.pick [7, 8]) ?_
       refine K.DW.l 13 rfl (by kernel_rfl) rfl (K.OW.gcall hS [2] [0, 1, 3, 4, 5, 6, 7, 8, 9] [K.pa p_56, K.iv 2, K.iv 0, K.iv ((ps.getD j pu0).at_), .int .u64 0, .int .u64 ((ps.getD j pu0).w)] (rmDo2_ok _ _ _ _ _ _ _ x_65 0 ((ps.getD j pu0).at_) 0 ((ps.getD j pu0).w) (by omega) (by omega)) ?_)
       clear hS; rintro _ _ w ⟨l_71, rfl, rfl, x_72⟩ hS
       replace hS : K.Sat w0 [l_71, l_69, l_31, l_39, l_27, g_19, g_7, g_2, gp, fr] w := hS
       refine ⟨.inl (hS.pick [7, 8]), ?_⟩
       refine K.DW.done (by kernel_rfl) ?_
       refine K.blk_normal ?_
       refine K.t (K.g (K.q [K.iv ((j : Nat) : Int)] ?_))
       refine K.a (K.QR.n64 ((((j : Nat) : Int) : Int) + (1 : Int)) ((j + 1 : Nat) : Int) (by kernel_rfl) (by omega)) ?_
       refine K.q [K.iv ((j + 1 : Nat) : Int)] (K.z (K.t ?_))
       refine ⟨_, ?_, j + 1, l_69, l_71, rfl, ⟨by rfl, by rfl, by rfl, by rfl, by rfl, by rfl, by rfl, by rfl, by rfl, by rfl, by rfl, by rfl, by rfl, by rfl, by rfl, trivial⟩, (by omega), (by rw [putsT_next (by omega)]; exact x_70), (by rw [putsT_next (by omega)]; exact x_72), hS.pick [2, 0, 1, 3, 4, 5, 6, 7, 8, 9]⟩
       omega
      ·
       refine K.x ((((j : Nat) : Int) : Int) < (((ps.length : Nat) : Int) : Int)) h_66 ?_
       refine K.z (K.t (K.f ?_))
       refine K.KW.exit ?_
       refine K.thn_exit ?_
       refine K.thn_exit ?_
       refine K.blk_hit ?_
       refine K.t (K.s ?_)
       have hsl := (MemAt.isok x_64).1.2.1
       refine K.g (K.q [K.pa b_18, K.pa p_51, K.pa p_56, K.iv 0, .bool true, .bool true, K.iv 0, .bool true, .bool true, .bool true, K.iv 0, .bool true, .bool true, .bool true, K.pa b_18, .bool true, .bool true, .bool true, K.pa p_51] ?_)
       refine K.l (K.OW.gcall hS [2] [0, 1, 3, 4, 5, 6, 7, 8, 9] [K.pa p_51] (mDevice_ok _ _ _ _ _ _ _ x_64 ) ?_)
       clear hS; rintro _ _ w ⟨rfl, rfl⟩ hS
       replace hS : K.Sat w0 [l1, l_31, m1, l_39, l_27, g_19, g_7, g_2, gp, fr] w := hS
       refine K.l (K.OW.gcall hS [0] [1, 2, 3, 4, 5, 6, 7, 8, 9] [K.pa p_42] (mdSeen_ok _ _ _ _ _ _ _ x_64) ?_)
       clear hS; rintro _ _ w ⟨r_73, cc_74, l_75, rfl, rfl, o_76⟩ hS
       replace hS : K.Sat w0 [l1, l_75, l_31, m1, l_39, l_27, g_19, g_7, g_2, gp, fr] w := hS
       refine K.a (K.QR.len (P := Tryz.prog) rfl rfl Tryz.underlying78) ?_
       refine K.q [.slice (some ⟨r_30, 0, none⟩) m_22 m_22] ?_
       refine K.a (K.QR.len (P := Tryz.prog) rfl rfl Tryz.underlying78) ?_
       refine K.ye ((((putsT n_43 (MemM.of (DevM.fresh (List.replicate m_22 (0 : Int)) n_43 c.th.toNat) m_34) (ps.take j)).dev.seen.length : Nat) : Int) : Int) (((m_22 : Nat) : Int) : Int) (by omega) ?_
       refine K.q [.bool true, K.pa b_18, K.pa p_51, K.pa p_56, .bool true] (K.z (K.t (K.r ?_)))
       obtain rfl : m_22 = n_43 * 8 := by omega
       have ej : ps.take j = ps := List.take_of_length_le (by omega)
       rw [ej] at x_64 x_65
       refine ⟨.inr rfl, rfl, (.tuple #[K.pa b_18, K.pa p_51, K.pa p_56, .bool true]), K.resAt (rs := [.tmp 2, .tmp 3, .tmp 4, .tmp 5]) [K.pa b_18, K.pa p_51, K.pa p_56, .bool true] rfl ⟨rfl, rfl, rfl, rfl, trivial⟩, [gp, g_19, l1, m1], ?_, hS.pick [9, 6, 0, 3, 10]⟩
       exact .inl ⟨_, _, _, _, _, n_43, m_34, _, _, _, rfl, rfl, h_20, x_64, x_65, by omega, by omega, by assumption, by omega⟩
    ·
     exfalso; omega
   ·
    exfalso; omega
 ·
  replace hS : K.Sat w0 [g_7, g_2, gp, fr] w := hS
  refine K.q [.bool true, .bool true] (K.n_ (K.n_ (K.n_ (K.n_ (K.q [.bool true] (K.z (K.t (K.h (K.s (K.g (K.q [.pointer none, .pointer none, .pointer none, .bool false] (K.z (K.t (K.r ?_))))))))))))))
  refine K.u ?_
  refine ⟨.inr rfl, rfl, (.tuple #[.pointer none, .pointer none, .pointer none, .bool false]), K.resAt (rs := [.tmp 2, .tmp 3, .tmp 4, .tmp 5]) [.pointer none, .pointer none, .pointer none, .bool false] rfl ⟨rfl, rfl, rfl, rfl, trivial⟩, [gp], ?_, hS.pick [2, 3]⟩
  exact .inr ⟨rfl, rfl, fun h => by first | exact absurd h.1 (by assumption) | (have h2 := h.2; omega)⟩
end Go.Proofs.YtbfafebfkdbglaaGreat
