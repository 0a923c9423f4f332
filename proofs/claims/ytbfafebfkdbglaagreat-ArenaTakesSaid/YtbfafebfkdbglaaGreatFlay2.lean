import Derived.Test.YtbfafebfkdbglaaGreatFlay
import Derived.Test.YtbfafebfkdbglaaGreatFlist
/- Contracts: told, and the lists of the reference of layer 6. -/
namespace Go.Proofs.YtbfafebfkdbglaaGreat
open Go.RowKit
set_option linter.unusedVariables false
attribute [local irreducible] K.KW K.RW K.DW K.OW K.QR K.KC
def fillN (l : List Nm) : List Nm := l ++ List.replicate ((8 - l.length % 8) % 8) nm0
def supT (i : Nat) : List Nm := (List.range i).map fun k => ⟨1, ((k / 8 : Nat) : Int), ((k % 8 : Nat) : Int)⟩
theorem supT_succ (i : Nat) : supT (i + 1) = supT i ++ [⟨1, ((i / 8 : Nat) : Int), ((i % 8 : Nat) : Int)⟩] := by unfold supT; rw [List.range_succ, List.map_append]; rfl
theorem supT_len (i : Nat) : (supT i).length = i := by simp [supT]
def headL : List Nm := fillN (fillN (fillN (supT 16 ++ [⟨2, 0, 0⟩]) ++ [⟨3, 0, 0⟩]) ++ [⟨4, 0, 0⟩])
def bkT : Nat → List Nm
 | 0 => headL
 | j + 1 => bkT j ++ [⟨5, ((j : Nat) : Int), 0⟩]
def thT (c : Cfg) : Nat → List Nm
 | 0 => fillN (bkT c.bu.toNat)
 | t + 1 => fillN ((thT c t ++ [⟨6, ((t : Nat) : Int), 0⟩]) ++ [⟨7, ((t : Nat) : Int), 0⟩])
def lgI (base : List Nm) (t : Nat) : Nat → List Nm
 | 0 => base
 | i + 1 => lgI base t i ++ [⟨8, ((t : Nat) : Int), ((i : Nat) : Int)⟩]
def lgT (c : Cfg) : Nat → List Nm
 | 0 => thT c c.th.toNat
 | t + 1 => fillN (lgI (lgT c t) t c.lo.toNat)
def slI (base : List Nm) (s : Nat) : Nat → List Nm
 | 0 => base
 | k + 1 => slI base s k ++ [⟨((9 + k : Nat) : Int), ((s : Nat) : Int), 0⟩]
def slT (c : Cfg) : Nat → List Nm
 | 0 => lgT c c.th.toNat
 | s + 1 => fillN (slI (slT c s) s 5)
def lasting (c : Cfg) : List Nm := slT c c.sl.toNat
def psT : Nat → List Nm
 | 0 => [⟨14, 0, 0⟩, ⟨15, 0, 0⟩]
 | t + 1 => psT t ++ [⟨16, ((t : Nat) : Int), 0⟩]
def pfT (c : Cfg) : Nat → List Nm
 | 0 => psT c.th.toNat
 | s + 1 => pfT c s ++ [⟨17, ((s : Nat) : Int), 0⟩]
def passing (c : Cfg) : List Nm := pfT c c.sl.toNat
theorem fillN_len (l : List Nm) : (fillN l).length = l.length + (8 - l.length % 8) % 8 := by simp [fillN]
theorem headL_len : headL.length = 40 := by
 unfold headL
 simp only [fillN_len, List.length_append, supT_len, List.length_cons, List.length_nil]
theorem bkT_len : ∀ j, (bkT j).length = 40 + j
 | 0 => headL_len
 | j + 1 => by show (bkT j ++ _).length = _; rw [List.length_append, bkT_len j]; rfl
theorem thT_len {c : Cfg} (h : cfgOk c) : ∀ t : Nat, (((thT c t).length : Nat) : Int) = (tFirst c + t) * 8
 | 0 => by
  show (((fillN (bkT c.bu.toNat)).length : Nat) : Int) = _
  rw [fillN_len, bkT_len]; unfold tFirst cfgOk at *; omega
 | t + 1 => by
  show (((fillN ((thT c t ++ _) ++ _)).length : Nat) : Int) = _
  have ih := thT_len h t
  rw [fillN_len]
  simp only [List.length_append, List.length_cons, List.length_nil]
  have := (lay_bd h).1
  omega
theorem lgI_len (base : List Nm) (t : Nat) : ∀ i, (lgI base t i).length = base.length + i
 | 0 => rfl
 | i + 1 => by show (lgI base t i ++ _).length = _; rw [List.length_append, lgI_len base t i]; rfl
theorem lgT_len {c : Cfg} (h : cfgOk c) : ∀ t : Nat, (((lgT c t).length : Nat) : Int) = (lFirst c + lsz c * t) * 8
 | 0 => by
  show (((thT c c.th.toNat).length : Nat) : Int) = _
  rw [thT_len h]; unfold lFirst cfgOk at *; simp; omega
 | t + 1 => by
  show (((fillN (lgI (lgT c t) t c.lo.toNat)).length : Nat) : Int) = _
  have ih := lgT_len h t
  rw [fillN_len, lgI_len]
  have h0 := lay_bd h
  have h1 : 0 ≤ lsz c * t := Int.mul_nonneg (by omega) (by omega)
  have h2 : lsz c * ((t + 1 : Nat) : Int) = lsz c * t + lsz c := by rw [Int.natCast_succ, Int.mul_add, Int.mul_one]
  rw [h2]
  have h3 : lsz c = (c.lo + 7) / 8 := rfl
  unfold cfgOk at h
  omega
theorem slI_len (base : List Nm) (s : Nat) : ∀ i, (slI base s i).length = base.length + i
 | 0 => rfl
 | i + 1 => by show (slI base s i ++ _).length = _; rw [List.length_append, slI_len base s i]; rfl
theorem slT_len {c : Cfg} (h : cfgOk c) : ∀ s : Nat, (((slT c s).length : Nat) : Int) = (sFirst c + s) * 8
 | 0 => by
  show (((lgT c c.th.toNat).length : Nat) : Int) = _
  rw [lgT_len h]
  have h0 := lay_bd h
  have h1 : lsz c * (c.th.toNat : Int) = tl c := by unfold tl; rw [Int.mul_comm]; congr 1; unfold cfgOk at h; omega
  rw [h1]; omega
 | s + 1 => by
  show (((fillN (slI (slT c s) s 5)).length : Nat) : Int) = _
  have ih := slT_len h s
  have h0 := lay_bd h
  rw [fillN_len, slI_len]
  omega
theorem lasting_len {c : Cfg} (h : cfgOk c) : (((lasting c).length : Nat) : Int) = lns c * 8 := by
 unfold lasting; rw [slT_len h]
 have := (lay_bd h).2.2.2.2.2.1
 unfold cfgOk at h; omega
theorem psT_len : ∀ t, (psT t).length = 2 + t
 | 0 => rfl
 | t + 1 => by show (psT t ++ _).length = _; rw [List.length_append, psT_len t]; rfl
theorem pfT_len (c : Cfg) : ∀ s, (pfT c s).length = 2 + c.th.toNat + s
 | 0 => psT_len _
 | s + 1 => by show (pfT c s ++ _).length = _; rw [List.length_append, pfT_len c s]; rfl
theorem passing_len {c : Cfg} (h : cfgOk c) : (((passing c).length : Nat) : Int) = 2 + c.th + c.sl := by unfold passing; rw [pfT_len]; unfold cfgOk at h; omega
theorem fill_done {xs ys : List Nm} {m : Nat} (h : ys = xs ++ List.replicate (m - xs.length) nm0) (hm : m = xs.length + (8 - xs.length % 8) % 8) : ys = fillN xs := by
 subst hm; unfold fillN; rw [h]; congr 2; omega
theorem fill_step {xs ys : List Nm} {m : Nat} (h : ys = xs ++ List.replicate (m - xs.length) nm0) (hm : xs.length ≤ m) : ys ++ [nm0] = xs ++ List.replicate (m + 1 - xs.length) nm0 := by
 rw [h, List.append_assoc, show m + 1 - xs.length = m - xs.length + 1 by omega, List.replicate_succ']
set_option maxHeartbeats 1000000 in
set_option maxRecDepth 100000 in
theorem fill_ok (B : Nat) (a : Option Addr) (n cap : Nat) (xs : List Nm) (w0 : World) (hB : B ≤ w0.heap.size) (hl : xs.length = n) (hm : (n + 8) * 24 ≤ 140737488355328) (ho : K.Own w0 B 115 3 a n cap ((xs).flatMap cNm)) :
  K.KC Tryz.prog 112 #[.slice a n cap] w0 (fun v w' => ∃ r m c, v = .slice r m c ∧ K.Chg (K.Ow a) w0 w' ∧ K.Own w' B 115 3 r m c ((fillN xs).flatMap cNm) ∧ (fillN xs).length = m ∧ m = n + (8 - n % 8) % 8 ∧ (∀ k, K.Ow r k → k < w0.heap.size → K.Ow a k)) := by
 refine K.KC.mk (n := 12) Tryz.func112 rfl rfl [.slice a n cap] rfl rfl ?_
 have c_0 : K.Chg (K.Ow a) w0 w0 := (K.Chg.refl w0).mono fun _ _ h => h.elim
 refine K.s ?_
 -- region 0 ref.go:35
 refine K.g (K.q [.slice none 0 0] (K.z (K.t (K.s ?_))))
 refine K.KW.block ?_
 refine K.KW.loop (fun m_ F_ w_1 => ∃ (ys : List Nm) (r : Option Addr) (m1 : Nat) (c1 : Nat), m_ = n + 8 - m1 ∧ K.Sl F_ [(0, .slice r m1 c1), (2, .slice none 0 0), (12, undef)] ∧ ys.length = m1 ∧ n ≤ m1 ∧ m1 ≤ n + (8 - n % 8) % 8 ∧ ys = xs ++ List.replicate (m1 - xs.length) nm0 ∧ (∀ k, K.Ow r k → k < w0.heap.size → K.Ow a k) ∧ K.Chg (K.Ow a) w0 w_1 ∧ K.Own w_1 B 115 3 r m1 c1 ((ys).flatMap cNm)) ((fun (ys : List Nm) (r : Option Addr) (m1 : Nat) (c1 : Nat) => n + 8 - m1) xs a n cap) ?_ ?_
 ·
  exact ⟨xs, a, n, cap, rfl, ⟨by rfl, by rfl, by rfl, trivial⟩, (hl), (by omega), (by omega), (by rw [hl, Nat.sub_self]; simp), (fun k h _ => h), c_0, ho⟩
 ·
  intro m_2 F_3 w_1 hI
  obtain ⟨ys, r, m1, c1, rfl, sl_4, p_6, p_7, p_8, p_9, p_10, c_5, f_11⟩ := hI
  rw [← K.Sl.puts sl_4]; clear sl_4
  have z_12 := c_5.size
  refine K.s (K.s ?_)
  -- region 1 ref.go:36
  refine K.g (K.q [.slice r m1 c1] ?_)
  refine K.a (K.QR.len (P := Tryz.prog) rfl rfl Tryz.underlying123) ?_
  refine K.a (K.QR.remi64 (((m1 : Nat) : Int) : Int) 8 ((m1 % 8 : Nat) : Int) (by kernel_rfl) (by omega) (by omega)) ?_
  by_cases h_13 : (((m1 % 8 : Nat) : Int) : Int) = (0 : Int)
  ·
   refine K.xn (((m1 % 8 : Nat) : Int) : Int) (0 : Int) h_13 ?_
   refine K.z (K.t (K.f ?_))
   refine K.KW.exit ?_
   refine K.thn_exit ?_
   refine K.thn_exit ?_
   refine K.blk_hit ?_
   refine K.t (K.s ?_)
   -- region 3 ref.go:39
   refine K.g (K.q [.slice r m1 c1, .slice r m1 c1] (K.z (K.t (K.r ?_))))
   refine ⟨.inr rfl, rfl, (.slice r m1 c1), K.res1 rfl rfl, ?_⟩
   obtain rfl : ys = fillN xs := fill_done (m := m1) (by assumption) (by omega)
   exact ⟨_, _, _, rfl, c_5, f_11, by assumption, by omega, by assumption⟩
  ·
   refine K.yn (((m1 % 8 : Nat) : Int) : Int) (0 : Int) h_13 ?_
   refine K.z (K.t (K.h (K.k (K.t ?_))))
   refine K.KW.block ?_
   -- region 2 ref.go:37
   refine K.g (K.q [.slice r m1 c1] ?_)
   refine K.a (K.QR.bd [] [K.iv 0, K.iv 0, K.iv 0] rfl rfl (by kernel_rfl)) ?_
   refine K.l (K.OW.bs rfl [(0, .agg #[K.iv 0, K.iv 0, K.iv 0])] [K.iv 0, K.iv 0, K.iv 0] rfl rfl (fun w => K.bs_run (P := Tryz.prog) w 123 115 1 _ _ Tryz.underlying123 (by kernel_rfl)) ?_)
   intro w_14 r_15 hr_16 e_17 hs_18 b_19
   have c_20 := c_5.no e_17
   have z_21 := c_20.size
   have zz_22 := e_17.size
   have f_23 := f_11.no e_17
   have ap_24 : ∀ k, K.Ow r k → ¬ k = r_15 := fun k hk he => absurd (f_11.lt k hk) (by omega)
   refine K.l (K.OW.app2 (P := Tryz.prog) (xs := (ys).flatMap cNm) (z := .agg #[K.iv 0, K.iv 0, K.iv 0]) (size := 3) (bytes := 24) rfl [K.iv 0, K.iv 0, K.iv 0] rfl rfl f_23 rfl Tryz.underlying123 (by kernel_rfl) rfl (by decide) (by rfl) (fun j u hj => (by rw [Nat.zero_add]; exact b_19.cell hj)) (K.one_cells (by rfl)) (by unfold maxLen; omega) (by omega) (by omega) ?_)
   intro a_25 cap_26 w_27 e_28 o_29 hk_30
   have c_31 := c_20.trans e_28 (fun i hi hy => p_10 i hy hi)
   have z_32 := c_31.size
   have zz_33 := e_28.size
   have hr_34 := K.root_app (B := w0.heap.size) p_10 hk_30 (by omega)
   have o_29t := K.Own.snoc (c := cNm) (L := ys) (⟨0, 0, 0⟩ : Nm) rfl o_29
   have ln_35 : ((ys ++ [(⟨0, 0, 0⟩ : Nm)])).length = m1 + 1 := by rw [List.length_append, p_6]; rfl
   refine K.q [.slice a_25 (m1 + 1) cap_26] (K.z ?_)
   refine K.blk_normal ?_
   refine K.t ?_
   refine ⟨_, ?_, (ys ++ [(⟨0, 0, 0⟩ : Nm)]), a_25, m1 + 1, cap_26, rfl, ⟨by rfl, by rfl, by rfl, trivial⟩, (ln_35), (by omega), (by omega), (fill_step (by assumption) (by omega)), (hr_34), c_31, o_29t⟩
   omega
set_option maxHeartbeats 4000000 in
set_option maxRecDepth 100000 in
theorem lasting_ok (c : Cfg) (w0 : World) (hc : cfgOk c) :
  K.KC Tryz.prog 61 #[.agg #[K.iv c.th, K.iv c.sl, K.iv c.lo, K.iv c.bu]] w0 (fun v w' => ∃ r m cc, v = .slice r m cc ∧ K.Chg K.No w0 w' ∧ K.Own w' w0.heap.size 115 3 r m cc ((lasting c).flatMap cNm) ∧ (lasting c).length = m) := by
 have hcc := hc
 unfold cfgOk at hcc
 refine K.KC.mk (n := 111) Tryz.func61 rfl rfl [.agg #[K.iv c.th, K.iv c.sl, K.iv c.lo, K.iv c.bu]] rfl rfl ?_
 refine K.s ?_
 -- region 0 ref.go:43
 refine K.g ?_
 refine K.l (K.OW.new (t := 23) rfl (fun r => K.pa r) [K.iv c.th, K.iv c.sl, K.iv c.lo, K.iv c.bu] (by kernel_rfl) ?_)
 intro w_1 r_2 hr_3 e_4 hs_5 b_6
 have c_7 := e_4
 have z_8 := c_7.size
 have zz_9 := e_4.size
 refine K.q [.slice none 0 0] (K.z (K.t (K.s ?_)))
 -- region 1 ref.go:44
 refine K.g (K.q [.slice none 0 0] (K.z (K.t (K.s (K.s ?_)))))
 -- region 2 ref.go:45
 refine K.g (K.q [K.iv 0] (K.z (K.t ?_)))
 refine K.KW.block ?_
 refine K.KW.loop (fun m_ F_ w_10 => ∃ (i : Nat) (xr : Option Addr) (xm : Nat) (xc : Nat), m_ = (16 - (i : Nat) : Int).toNat ∧ K.Sl F_ [(0, .agg #[K.iv c.th, K.iv c.sl, K.iv c.lo, K.iv c.bu]), (1, K.pa r_2), (2, .slice none 0 0), (3, .slice xr xm xc), (4, K.iv ((i : Nat) : Int)), (111, undef)] ∧ ((i : Nat) : Int) ≤ 16 ∧ (supT i).length = xm ∧ xm ≤ i ∧ K.Chg K.No w0 w_10 ∧ K.Own w_10 w0.heap.size 115 3 xr xm xc ((supT i).flatMap cNm) ∧ K.Blk w_10 r_2 23 [K.iv c.th, K.iv c.sl, K.iv c.lo, K.iv c.bu]) ((fun (i : Nat) (xr : Option Addr) (xm : Nat) (xc : Nat) => (16 - (i : Nat) : Int).toNat) 0 none 0 0) ?_ ?_
 ·
  exact ⟨0, none, 0, 0, rfl, ⟨by rfl, by rfl, by rfl, by rfl, by rfl, by rfl, trivial⟩, (by omega), (by rfl), (by omega), c_7, K.Own.nil _ _ _ _, b_6⟩
 ·
  intro m_12 F_13 w_10 hI
  obtain ⟨i, xr, xm, xc, rfl, sl_14, p_16, p_17, p_18, c_15, f_19, f_20⟩ := hI
  rw [← K.Sl.puts sl_14]; clear sl_14
  have z_21 := c_15.size
  refine K.s (K.s ?_)
  -- region 3 ref.go:45
  refine K.g (K.q [K.iv ((i : Nat) : Int)] ?_)
  by_cases h_22 : (((i : Nat) : Int) : Int) < (16 : Int)
  ·
   refine K.y ((((i : Nat) : Int) : Int) < (16 : Int)) h_22 ?_
   refine K.z (K.t (K.h (K.k (K.t (K.s ?_)))))
   refine K.KW.block ?_
   -- region 5 ref.go:46
   refine K.g (K.q [.slice xr xm xc, K.iv ((i : Nat) : Int)] ?_)
   refine K.a (K.QR.quoi64 (((i : Nat) : Int) : Int) 8 ((i / 8 : Nat) : Int) (by kernel_rfl) (by omega) (by omega)) ?_
   refine K.q [K.iv ((i : Nat) : Int)] ?_
   refine K.a (K.QR.remi64 (((i : Nat) : Int) : Int) 8 ((i % 8 : Nat) : Int) (by kernel_rfl) (by omega) (by omega)) ?_
   refine K.a (K.QR.bd [(0, K.iv 1), (1, K.iv ((i / 8 : Nat) : Int)), (2, K.iv ((i % 8 : Nat) : Int))] [K.iv 1, K.iv ((i / 8 : Nat) : Int), K.iv ((i % 8 : Nat) : Int)] rfl rfl (by kernel_rfl)) ?_
   refine K.l (K.OW.bs rfl [(0, .agg #[K.iv 1, K.iv ((i / 8 : Nat) : Int), K.iv ((i % 8 : Nat) : Int)])] [K.iv 1, K.iv ((i / 8 : Nat) : Int), K.iv ((i % 8 : Nat) : Int)] rfl rfl (fun w => K.bs_run (P := Tryz.prog) w 123 115 1 _ _ Tryz.underlying123 (by kernel_rfl)) ?_)
   intro w_23 r_24 hr_25 e_26 hs_27 b_28
   have c_29 := c_15.no e_26
   have z_30 := c_29.size
   have zz_31 := e_26.size
   have f_32 := f_19.no e_26
   have f_33 := f_20.no e_26
   have ap_34 : ∀ k, K.Ow xr k → ¬ k = r_24 := fun k hk he => absurd (f_19.lt k hk) (by omega)
   refine K.l (K.OW.app2 (P := Tryz.prog) (xs := ((supT i)).flatMap cNm) (z := .agg #[K.iv 0, K.iv 0, K.iv 0]) (size := 3) (bytes := 24) rfl [K.iv 1, K.iv ((i / 8 : Nat) : Int), K.iv ((i % 8 : Nat) : Int)] rfl rfl f_32 rfl Tryz.underlying123 (by kernel_rfl) rfl (by decide) (by rfl) (fun j u hj => (by rw [Nat.zero_add]; exact b_28.cell hj)) (K.one_cells (by rfl)) (by unfold maxLen; omega) (by omega) (by omega) ?_)
   intro a_35 cap_36 w_37 e_38 o_39 hk_40
   have c_41 := c_29.trans e_38 (fun i hi hy => absurd (f_32.base_le i hy) (by omega))
   have z_42 := c_41.size
   have zz_43 := e_38.size
   have f_44 := f_33.chg e_38 (fun hk => f_32.ne_ty f_33 (by decide) _ hk rfl)
   have o_39t := K.Own.snoc (c := cNm) (L := (supT i)) (⟨1, ((i / 8 : Nat) : Int), ((i % 8 : Nat) : Int)⟩ : Nm) rfl o_39
   have ln_45 : (((supT i) ++ [(⟨1, ((i / 8 : Nat) : Int), ((i % 8 : Nat) : Int)⟩ : Nm)])).length = xm + 1 := by rw [List.length_append, p_17]; rfl
   refine K.q [.slice a_35 (xm + 1) cap_36] (K.z ?_)
   refine K.blk_normal ?_
   refine K.t ?_
   -- region 4 ref.go:45
   refine K.g (K.q [K.iv ((i : Nat) : Int)] ?_)
   refine K.a (K.QR.n64 ((((i : Nat) : Int) : Int) + (1 : Int)) ((i + 1 : Nat) : Int) (by kernel_rfl) (by omega)) ?_
   refine K.q [K.iv ((i + 1 : Nat) : Int)] (K.z (K.t ?_))
   refine ⟨_, ?_, i + 1, a_35, xm + 1, cap_36, rfl, ⟨by rfl, by rfl, by rfl, by rfl, by rfl, by rfl, trivial⟩, (by omega), (by rw [supT_succ]; exact ln_45), (by omega), c_41, (by rw [supT_succ]; exact o_39t), f_44⟩
   omega
  ·
   refine K.x ((((i : Nat) : Int) : Int) < (16 : Int)) h_22 ?_
   refine K.z (K.t (K.f ?_))
   refine K.KW.exit ?_
   refine K.thn_exit ?_
   refine K.thn_exit ?_
   refine K.blk_hit ?_
   refine K.t (K.s ?_)
   -- region 6 ref.go:48
   refine K.g (K.q [.slice xr xm xc] ?_)
   refine K.a (K.QR.bd [(0, K.iv 2)] [K.iv 2, K.iv 0, K.iv 0] rfl rfl (by kernel_rfl)) ?_
   refine K.l (K.OW.bs rfl [(0, .agg #[K.iv 2, K.iv 0, K.iv 0])] [K.iv 2, K.iv 0, K.iv 0] rfl rfl (fun w => K.bs_run (P := Tryz.prog) w 123 115 1 _ _ Tryz.underlying123 (by kernel_rfl)) ?_)
   intro w_46 r_47 hr_48 e_49 hs_50 b_51
   have c_52 := c_15.no e_49
   have z_53 := c_52.size
   have zz_54 := e_49.size
   have f_55 := f_19.no e_49
   have f_56 := f_20.no e_49
   have ap_57 : ∀ k, K.Ow xr k → ¬ k = r_47 := fun k hk he => absurd (f_19.lt k hk) (by omega)
   refine K.l (K.OW.app2 (P := Tryz.prog) (xs := ((supT i)).flatMap cNm) (z := .agg #[K.iv 0, K.iv 0, K.iv 0]) (size := 3) (bytes := 24) rfl [K.iv 2, K.iv 0, K.iv 0] rfl rfl f_55 rfl Tryz.underlying123 (by kernel_rfl) rfl (by decide) (by rfl) (fun j u hj => (by rw [Nat.zero_add]; exact b_51.cell hj)) (K.one_cells (by rfl)) (by unfold maxLen; omega) (by omega) (by omega) ?_)
   intro a_58 cap_59 w_60 e_61 o_62 hk_63
   have c_64 := c_52.trans e_61 (fun i hi hy => absurd (f_55.base_le i hy) (by omega))
   have z_65 := c_64.size
   have zz_66 := e_61.size
   have f_67 := f_56.chg e_61 (fun hk => f_55.ne_ty f_56 (by decide) _ hk rfl)
   have o_62t := K.Own.snoc (c := cNm) (L := (supT i)) (⟨2, 0, 0⟩ : Nm) rfl o_62
   have ln_68 : (((supT i) ++ [(⟨2, 0, 0⟩ : Nm)])).length = xm + 1 := by rw [List.length_append, p_17]; rfl
   refine K.q [.slice a_58 (xm + 1) cap_59] (K.z (K.t (K.s ?_)))
   -- region 7 ref.go:49
   refine K.g (K.q [.slice a_58 (xm + 1) cap_59] ?_)
   refine K.l (K.OW.call rfl [.slice a_58 (xm + 1) cap_59] rfl rfl (by kernel_rfl) (fill_ok w0.heap.size a_58 (xm + 1) cap_59 ((supT i) ++ [(⟨2, 0, 0⟩ : Nm)]) _ (by omega) ln_68 (by omega) o_62t) ?_)
   rintro _ w_77 ⟨r_69, m_70, cc_71, rfl, c_72, o_73, ln_74, hm_75, hr_76⟩
   have c_78 := c_64.trans c_72 (fun i hi hy => absurd (o_62t.base_le i hy) (by omega))
   have z_79 := c_78.size
   have zz_80 := c_72.size
   have f_81 := f_67.chg c_72 (fun hk => o_62t.ne_ty f_67 (by decide) _ hk rfl)
   refine K.q [.slice r_69 m_70 cc_71] (K.z (K.t (K.s ?_)))
   -- region 8 ref.go:50
   refine K.g (K.q [.slice r_69 m_70 cc_71] ?_)
   refine K.a (K.QR.bd [(0, K.iv 3)] [K.iv 3, K.iv 0, K.iv 0] rfl rfl (by kernel_rfl)) ?_
   refine K.l (K.OW.bs rfl [(0, .agg #[K.iv 3, K.iv 0, K.iv 0])] [K.iv 3, K.iv 0, K.iv 0] rfl rfl (fun w => K.bs_run (P := Tryz.prog) w 123 115 1 _ _ Tryz.underlying123 (by kernel_rfl)) ?_)
   intro w_82 r_83 hr_84 e_85 hs_86 b_87
   have c_88 := c_78.no e_85
   have z_89 := c_88.size
   have zz_90 := e_85.size
   have f_91 := f_81.no e_85
   have f_92 := o_73.no e_85
   have ap_93 : ∀ k, K.Ow r_69 k → ¬ k = r_83 := fun k hk he => absurd (o_73.lt k hk) (by omega)
   refine K.l (K.OW.app2 (P := Tryz.prog) (xs := ((fillN ((supT i) ++ [(⟨2, 0, 0⟩ : Nm)]))).flatMap cNm) (z := .agg #[K.iv 0, K.iv 0, K.iv 0]) (size := 3) (bytes := 24) rfl [K.iv 3, K.iv 0, K.iv 0] rfl rfl f_92 rfl Tryz.underlying123 (by kernel_rfl) rfl (by decide) (by rfl) (fun j u hj => (by rw [Nat.zero_add]; exact b_87.cell hj)) (K.one_cells (by rfl)) (by unfold maxLen; omega) (by omega) (by omega) ?_)
   intro a_94 cap_95 w_96 e_97 o_98 hk_99
   have c_100 := c_88.trans e_97 (fun i hi hy => absurd (f_92.base_le i hy) (by omega))
   have z_101 := c_100.size
   have zz_102 := e_97.size
   have f_103 := f_91.chg e_97 (fun hk => f_92.ne_ty f_91 (by decide) _ hk rfl)
   have o_98t := K.Own.snoc (c := cNm) (L := (fillN ((supT i) ++ [(⟨2, 0, 0⟩ : Nm)]))) (⟨3, 0, 0⟩ : Nm) rfl o_98
   have ln_104 : (((fillN ((supT i) ++ [(⟨2, 0, 0⟩ : Nm)])) ++ [(⟨3, 0, 0⟩ : Nm)])).length = m_70 + 1 := by rw [List.length_append, ln_74]; rfl
   refine K.q [.slice a_94 (m_70 + 1) cap_95] (K.z (K.t (K.s ?_)))
   -- region 9 ref.go:51
   refine K.g (K.q [.slice a_94 (m_70 + 1) cap_95] ?_)
   refine K.l (K.OW.call rfl [.slice a_94 (m_70 + 1) cap_95] rfl rfl (by kernel_rfl) (fill_ok w0.heap.size a_94 (m_70 + 1) cap_95 ((fillN ((supT i) ++ [(⟨2, 0, 0⟩ : Nm)])) ++ [(⟨3, 0, 0⟩ : Nm)]) _ (by omega) ln_104 (by omega) o_98t) ?_)
   rintro _ w_113 ⟨r_105, m_106, cc_107, rfl, c_108, o_109, ln_110, hm_111, hr_112⟩
   have c_114 := c_100.trans c_108 (fun i hi hy => absurd (o_98t.base_le i hy) (by omega))
   have z_115 := c_114.size
   have zz_116 := c_108.size
   have f_117 := f_103.chg c_108 (fun hk => o_98t.ne_ty f_103 (by decide) _ hk rfl)
   refine K.q [.slice r_105 m_106 cc_107] (K.z (K.t (K.s ?_)))
   -- region 10 ref.go:52
   refine K.g (K.q [.slice r_105 m_106 cc_107] ?_)
   refine K.a (K.QR.bd [(0, K.iv 4)] [K.iv 4, K.iv 0, K.iv 0] rfl rfl (by kernel_rfl)) ?_
   refine K.l (K.OW.bs rfl [(0, .agg #[K.iv 4, K.iv 0, K.iv 0])] [K.iv 4, K.iv 0, K.iv 0] rfl rfl (fun w => K.bs_run (P := Tryz.prog) w 123 115 1 _ _ Tryz.underlying123 (by kernel_rfl)) ?_)
   intro w_118 r_119 hr_120 e_121 hs_122 b_123
   have c_124 := c_114.no e_121
   have z_125 := c_124.size
   have zz_126 := e_121.size
   have f_127 := f_117.no e_121
   have f_128 := o_109.no e_121
   have ap_129 : ∀ k, K.Ow r_105 k → ¬ k = r_119 := fun k hk he => absurd (o_109.lt k hk) (by omega)
   refine K.l (K.OW.app2 (P := Tryz.prog) (xs := ((fillN ((fillN ((supT i) ++ [(⟨2, 0, 0⟩ : Nm)])) ++ [(⟨3, 0, 0⟩ : Nm)]))).flatMap cNm) (z := .agg #[K.iv 0, K.iv 0, K.iv 0]) (size := 3) (bytes := 24) rfl [K.iv 4, K.iv 0, K.iv 0] rfl rfl f_128 rfl Tryz.underlying123 (by kernel_rfl) rfl (by decide) (by rfl) (fun j u hj => (by rw [Nat.zero_add]; exact b_123.cell hj)) (K.one_cells (by rfl)) (by unfold maxLen; omega) (by omega) (by omega) ?_)
   intro a_130 cap_131 w_132 e_133 o_134 hk_135
   have c_136 := c_124.trans e_133 (fun i hi hy => absurd (f_128.base_le i hy) (by omega))
   have z_137 := c_136.size
   have zz_138 := e_133.size
   have f_139 := f_127.chg e_133 (fun hk => f_128.ne_ty f_127 (by decide) _ hk rfl)
   have o_134t := K.Own.snoc (c := cNm) (L := (fillN ((fillN ((supT i) ++ [(⟨2, 0, 0⟩ : Nm)])) ++ [(⟨3, 0, 0⟩ : Nm)]))) (⟨4, 0, 0⟩ : Nm) rfl o_134
   have ln_140 : (((fillN ((fillN ((supT i) ++ [(⟨2, 0, 0⟩ : Nm)])) ++ [(⟨3, 0, 0⟩ : Nm)])) ++ [(⟨4, 0, 0⟩ : Nm)])).length = m_106 + 1 := by rw [List.length_append, ln_110]; rfl
   refine K.q [.slice a_130 (m_106 + 1) cap_131] (K.z (K.t (K.s ?_)))
   -- region 11 ref.go:53
   refine K.g (K.q [.slice a_130 (m_106 + 1) cap_131] ?_)
   refine K.l (K.OW.call rfl [.slice a_130 (m_106 + 1) cap_131] rfl rfl (by kernel_rfl) (fill_ok w0.heap.size a_130 (m_106 + 1) cap_131 ((fillN ((fillN ((supT i) ++ [(⟨2, 0, 0⟩ : Nm)])) ++ [(⟨3, 0, 0⟩ : Nm)])) ++ [(⟨4, 0, 0⟩ : Nm)]) _ (by omega) ln_140 (by omega) o_134t) ?_)
   rintro _ w_149 ⟨r_141, m_142, cc_143, rfl, c_144, o_145, ln_146, hm_147, hr_148⟩
   have c_150 := c_136.trans c_144 (fun i hi hy => absurd (o_134t.base_le i hy) (by omega))
   have z_151 := c_150.size
   have zz_152 := c_144.size
   have f_153 := f_139.chg c_144 (fun hk => o_134t.ne_ty f_139 (by decide) _ hk rfl)
   refine K.q [.slice r_141 m_142 cc_143] (K.z (K.t (K.s (K.s ?_))))
   -- region 12 ref.go:54
   refine K.g (K.q [K.iv 0] (K.z (K.t ?_)))
   refine K.KW.block ?_
   refine K.KW.loop (fun m_ F_ w_154 => ∃ (j : Nat) (yr : Option Addr) (ym : Nat) (yc : Nat), m_ = (c.bu - (j : Nat) : Int).toNat ∧ K.Sl F_ [(0, .agg #[K.iv c.th, K.iv c.sl, K.iv c.lo, K.iv c.bu]), (1, K.pa r_2), (2, .slice none 0 0), (3, .slice yr ym yc), (5, K.iv ((j : Nat) : Int)), (111, undef)] ∧ ((j : Nat) : Int) ≤ c.bu ∧ (bkT j).length = ym ∧ ym = 40 + j ∧ K.Chg K.No w0 w_154 ∧ K.Own w_154 w0.heap.size 115 3 yr ym yc ((bkT j).flatMap cNm) ∧ K.Blk w_154 r_2 23 [K.iv c.th, K.iv c.sl, K.iv c.lo, K.iv c.bu]) ((fun (j : Nat) (yr : Option Addr) (ym : Nat) (yc : Nat) => (c.bu - (j : Nat) : Int).toNat) 0 r_141 m_142 cc_143) ?_ ?_
   ·
    exact ⟨0, r_141, m_142, cc_143, rfl, ⟨by rfl, by rfl, by rfl, by rfl, by rfl, by rfl, trivial⟩, (by omega), (by have h := ln_146; rw [show i = 16 by omega] at h; exact h), (by have h := ln_146; rw [show i = 16 by omega] at h; have h2 := headL_len; have h3 : headL.length = _ := h; omega), c_150, (by have h := o_145; rw [show i = 16 by omega] at h; exact h), f_153⟩
   ·
    intro m_156 F_157 w_154 hI
    obtain ⟨j, yr, ym, yc, rfl, sl_158, p_160, p_161, p_162, c_159, f_163, f_164⟩ := hI
    rw [← K.Sl.puts sl_158]; clear sl_158
    have z_165 := c_159.size
    refine K.s (K.s ?_)
    -- region 13 ref.go:54
    refine K.g (K.q [K.iv ((j : Nat) : Int), .pointer (some ⟨r_2, 3, none⟩)] ?_)
    refine K.d (K.iv c.bu) (f_164.cell rfl) ?_
    by_cases h_166 : (((j : Nat) : Int) : Int) < (c.bu : Int)
    ·
     refine K.y ((((j : Nat) : Int) : Int) < (c.bu : Int)) h_166 ?_
     refine K.z (K.t (K.h (K.k (K.t (K.s ?_)))))
     refine K.KW.block ?_
     -- region 15 ref.go:55
     refine K.g (K.q [.slice yr ym yc, K.iv ((j : Nat) : Int)] ?_)
     refine K.a (K.QR.bd [(0, K.iv 5), (1, K.iv ((j : Nat) : Int))] [K.iv 5, K.iv ((j : Nat) : Int), K.iv 0] rfl rfl (by kernel_rfl)) ?_
     refine K.l (K.OW.bs rfl [(0, .agg #[K.iv 5, K.iv ((j : Nat) : Int), K.iv 0])] [K.iv 5, K.iv ((j : Nat) : Int), K.iv 0] rfl rfl (fun w => K.bs_run (P := Tryz.prog) w 123 115 1 _ _ Tryz.underlying123 (by kernel_rfl)) ?_)
     intro w_167 r_168 hr_169 e_170 hs_171 b_172
     have c_173 := c_159.no e_170
     have z_174 := c_173.size
     have zz_175 := e_170.size
     have f_176 := f_163.no e_170
     have f_177 := f_164.no e_170
     have ap_178 : ∀ k, K.Ow yr k → ¬ k = r_168 := fun k hk he => absurd (f_163.lt k hk) (by omega)
     refine K.l (K.OW.app2 (P := Tryz.prog) (xs := ((bkT j)).flatMap cNm) (z := .agg #[K.iv 0, K.iv 0, K.iv 0]) (size := 3) (bytes := 24) rfl [K.iv 5, K.iv ((j : Nat) : Int), K.iv 0] rfl rfl f_176 rfl Tryz.underlying123 (by kernel_rfl) rfl (by decide) (by rfl) (fun j u hj => (by rw [Nat.zero_add]; exact b_172.cell hj)) (K.one_cells (by rfl)) (by unfold maxLen; omega) (by omega) (by omega) ?_)
     intro a_179 cap_180 w_181 e_182 o_183 hk_184
     have c_185 := c_173.trans e_182 (fun i hi hy => absurd (f_176.base_le i hy) (by omega))
     have z_186 := c_185.size
     have zz_187 := e_182.size
     have f_188 := f_177.chg e_182 (fun hk => f_176.ne_ty f_177 (by decide) _ hk rfl)
     have o_183t := K.Own.snoc (c := cNm) (L := (bkT j)) (⟨5, ((j : Nat) : Int), 0⟩ : Nm) rfl o_183
     have ln_189 : (((bkT j) ++ [(⟨5, ((j : Nat) : Int), 0⟩ : Nm)])).length = ym + 1 := by rw [List.length_append, p_161]; rfl
     refine K.q [.slice a_179 (ym + 1) cap_180] (K.z ?_)
     refine K.blk_normal ?_
     refine K.t ?_
     -- region 14 ref.go:54
     refine K.g (K.q [K.iv ((j : Nat) : Int)] ?_)
     refine K.a (K.QR.n64 ((((j : Nat) : Int) : Int) + (1 : Int)) ((j + 1 : Nat) : Int) (by kernel_rfl) (by omega)) ?_
     refine K.q [K.iv ((j + 1 : Nat) : Int)] (K.z (K.t ?_))
     refine ⟨_, ?_, j + 1, a_179, ym + 1, cap_180, rfl, ⟨by rfl, by rfl, by rfl, by rfl, by rfl, by rfl, trivial⟩, (by omega), (by exact ln_189), (by omega), c_185, o_183t, f_188⟩
     omega
    ·
     refine K.x ((((j : Nat) : Int) : Int) < (c.bu : Int)) h_166 ?_
     refine K.z (K.t (K.f ?_))
     refine K.KW.exit ?_
     refine K.thn_exit ?_
     refine K.thn_exit ?_
     refine K.blk_hit ?_
     refine K.t (K.s ?_)
     -- region 16 ref.go:57
     refine K.g (K.q [.slice yr ym yc] ?_)
     refine K.l (K.OW.call rfl [.slice yr ym yc] rfl rfl (by kernel_rfl) (fill_ok w0.heap.size yr ym yc (bkT j) _ (by omega) p_161 (by omega) f_163) ?_)
     rintro _ w_198 ⟨r_190, m_191, cc_192, rfl, c_193, o_194, ln_195, hm_196, hr_197⟩
     have c_199 := c_159.trans c_193 (fun i hi hy => absurd (f_163.base_le i hy) (by omega))
     have z_200 := c_199.size
     have zz_201 := c_193.size
     have f_202 := f_164.chg c_193 (fun hk => f_163.ne_ty f_164 (by decide) _ hk rfl)
     refine K.q [.slice r_190 m_191 cc_192] (K.z (K.t (K.s (K.s ?_))))
     -- region 17 ref.go:58
     refine K.g (K.q [K.iv 0] (K.z (K.t ?_)))
     refine K.KW.block ?_
     refine K.KW.loop (fun m_ F_ w_203 => ∃ (t : Nat) (zr : Option Addr) (zm : Nat) (zc : Nat), m_ = (c.th - (t : Nat) : Int).toNat ∧ K.Sl F_ [(0, .agg #[K.iv c.th, K.iv c.sl, K.iv c.lo, K.iv c.bu]), (1, K.pa r_2), (2, .slice none 0 0), (3, .slice zr zm zc), (6, K.iv ((t : Nat) : Int)), (111, undef)] ∧ ((t : Nat) : Int) ≤ c.th ∧ (thT c t).length = zm ∧ zm ≤ 112 + 8 * t ∧ zm % 8 = 0 ∧ K.Chg K.No w0 w_203 ∧ K.Own w_203 w0.heap.size 115 3 zr zm zc ((thT c t).flatMap cNm) ∧ K.Blk w_203 r_2 23 [K.iv c.th, K.iv c.sl, K.iv c.lo, K.iv c.bu]) ((fun (t : Nat) (zr : Option Addr) (zm : Nat) (zc : Nat) => (c.th - (t : Nat) : Int).toNat) 0 r_190 m_191 cc_192) ?_ ?_
     ·
      exact ⟨0, r_190, m_191, cc_192, rfl, ⟨by rfl, by rfl, by rfl, by rfl, by rfl, by rfl, trivial⟩, (by omega), (by exact (by have h := ln_195; rw [show j = c.bu.toNat by omega] at h; exact h)), (by omega), (by omega), c_199, (by have h := o_194; rw [show j = c.bu.toNat by omega] at h; exact h), f_202⟩
     ·
      intro m_205 F_206 w_203 hI
      obtain ⟨t, zr, zm, zc, rfl, sl_207, p_209, p_210, p_211, p_212, c_208, f_213, f_214⟩ := hI
      rw [← K.Sl.puts sl_207]; clear sl_207
      have z_215 := c_208.size
      refine K.s (K.s ?_)
      -- region 18 ref.go:58
      refine K.g (K.q [K.iv ((t : Nat) : Int), K.pa r_2] ?_)
      refine K.d (K.iv c.th) (f_214.cell rfl) ?_
      by_cases h_216 : (((t : Nat) : Int) : Int) < (c.th : Int)
      ·
       refine K.y ((((t : Nat) : Int) : Int) < (c.th : Int)) h_216 ?_
       refine K.z (K.t (K.h (K.k (K.t (K.s ?_)))))
       refine K.KW.block ?_
       refine K.s ?_
       -- region 20 ref.go:59
       refine K.g (K.q [.slice zr zm zc, K.iv ((t : Nat) : Int)] ?_)
       refine K.a (K.QR.bd [(0, K.iv 6), (1, K.iv ((t : Nat) : Int))] [K.iv 6, K.iv ((t : Nat) : Int), K.iv 0] rfl rfl (by kernel_rfl)) ?_
       refine K.l (K.OW.bs rfl [(0, .agg #[K.iv 6, K.iv ((t : Nat) : Int), K.iv 0])] [K.iv 6, K.iv ((t : Nat) : Int), K.iv 0] rfl rfl (fun w => K.bs_run (P := Tryz.prog) w 123 115 1 _ _ Tryz.underlying123 (by kernel_rfl)) ?_)
       intro w_217 r_218 hr_219 e_220 hs_221 b_222
       have c_223 := c_208.no e_220
       have z_224 := c_223.size
       have zz_225 := e_220.size
       have f_226 := f_213.no e_220
       have f_227 := f_214.no e_220
       have ap_228 : ∀ k, K.Ow zr k → ¬ k = r_218 := fun k hk he => absurd (f_213.lt k hk) (by omega)
       refine K.l (K.OW.app2 (P := Tryz.prog) (xs := ((thT c t)).flatMap cNm) (z := .agg #[K.iv 0, K.iv 0, K.iv 0]) (size := 3) (bytes := 24) rfl [K.iv 6, K.iv ((t : Nat) : Int), K.iv 0] rfl rfl f_226 rfl Tryz.underlying123 (by kernel_rfl) rfl (by decide) (by rfl) (fun j u hj => (by rw [Nat.zero_add]; exact b_222.cell hj)) (K.one_cells (by rfl)) (by unfold maxLen; omega) (by omega) (by omega) ?_)
       intro a_229 cap_230 w_231 e_232 o_233 hk_234
       have c_235 := c_223.trans e_232 (fun i hi hy => absurd (f_226.base_le i hy) (by omega))
       have z_236 := c_235.size
       have zz_237 := e_232.size
       have f_238 := f_227.chg e_232 (fun hk => f_226.ne_ty f_227 (by decide) _ hk rfl)
       have o_233t := K.Own.snoc (c := cNm) (L := (thT c t)) (⟨6, ((t : Nat) : Int), 0⟩ : Nm) rfl o_233
       have ln_239 : (((thT c t) ++ [(⟨6, ((t : Nat) : Int), 0⟩ : Nm)])).length = zm + 1 := by rw [List.length_append, p_210]; rfl
       refine K.q [.slice a_229 (zm + 1) cap_230] (K.z (K.t (K.s ?_)))
       -- region 21 ref.go:60
       refine K.g (K.q [.slice a_229 (zm + 1) cap_230, K.iv ((t : Nat) : Int)] ?_)
       refine K.a (K.QR.bd [(0, K.iv 7), (1, K.iv ((t : Nat) : Int))] [K.iv 7, K.iv ((t : Nat) : Int), K.iv 0] rfl rfl (by kernel_rfl)) ?_
       refine K.l (K.OW.bs rfl [(0, .agg #[K.iv 7, K.iv ((t : Nat) : Int), K.iv 0])] [K.iv 7, K.iv ((t : Nat) : Int), K.iv 0] rfl rfl (fun w => K.bs_run (P := Tryz.prog) w 123 115 1 _ _ Tryz.underlying123 (by kernel_rfl)) ?_)
       intro w_240 r_241 hr_242 e_243 hs_244 b_245
       have c_246 := c_235.no e_243
       have z_247 := c_246.size
       have zz_248 := e_243.size
       have f_249 := f_238.no e_243
       have f_250 := o_233t.no e_243
       have ap_251 : ∀ k, K.Ow a_229 k → ¬ k = r_241 := fun k hk he => absurd (o_233t.lt k hk) (by omega)
       refine K.l (K.OW.app2 (P := Tryz.prog) (xs := (((thT c t) ++ [(⟨6, ((t : Nat) : Int), 0⟩ : Nm)])).flatMap cNm) (z := .agg #[K.iv 0, K.iv 0, K.iv 0]) (size := 3) (bytes := 24) rfl [K.iv 7, K.iv ((t : Nat) : Int), K.iv 0] rfl rfl f_250 rfl Tryz.underlying123 (by kernel_rfl) rfl (by decide) (by rfl) (fun j u hj => (by rw [Nat.zero_add]; exact b_245.cell hj)) (K.one_cells (by rfl)) (by unfold maxLen; omega) (by omega) (by omega) ?_)
       intro a_252 cap_253 w_254 e_255 o_256 hk_257
       have c_258 := c_246.trans e_255 (fun i hi hy => absurd (f_250.base_le i hy) (by omega))
       have z_259 := c_258.size
       have zz_260 := e_255.size
       have f_261 := f_249.chg e_255 (fun hk => f_250.ne_ty f_249 (by decide) _ hk rfl)
       have o_256t := K.Own.snoc (c := cNm) (L := ((thT c t) ++ [(⟨6, ((t : Nat) : Int), 0⟩ : Nm)])) (⟨7, ((t : Nat) : Int), 0⟩ : Nm) rfl o_256
       have ln_262 : ((((thT c t) ++ [(⟨6, ((t : Nat) : Int), 0⟩ : Nm)]) ++ [(⟨7, ((t : Nat) : Int), 0⟩ : Nm)])).length = zm + 1 + 1 := by rw [List.length_append, ln_239]; rfl
       refine K.q [.slice a_252 (zm + 1 + 1) cap_253] (K.z (K.t ?_))
       -- region 22 ref.go:61
       refine K.g (K.q [.slice a_252 (zm + 1 + 1) cap_253] ?_)
       refine K.l (K.OW.call rfl [.slice a_252 (zm + 1 + 1) cap_253] rfl rfl (by kernel_rfl) (fill_ok w0.heap.size a_252 (zm + 1 + 1) cap_253 (((thT c t) ++ [(⟨6, ((t : Nat) : Int), 0⟩ : Nm)]) ++ [(⟨7, ((t : Nat) : Int), 0⟩ : Nm)]) _ (by omega) ln_262 (by omega) o_256t) ?_)
       rintro _ w_271 ⟨r_263, m_264, cc_265, rfl, c_266, o_267, ln_268, hm_269, hr_270⟩
       have c_272 := c_258.trans c_266 (fun i hi hy => absurd (o_256t.base_le i hy) (by omega))
       have z_273 := c_272.size
       have zz_274 := c_266.size
       have f_275 := f_261.chg c_266 (fun hk => o_256t.ne_ty f_261 (by decide) _ hk rfl)
       refine K.q [.slice r_263 m_264 cc_265] (K.z ?_)
       refine K.blk_normal ?_
       refine K.t ?_
       -- region 19 ref.go:58
       refine K.g (K.q [K.iv ((t : Nat) : Int)] ?_)
       refine K.a (K.QR.n64 ((((t : Nat) : Int) : Int) + (1 : Int)) ((t + 1 : Nat) : Int) (by kernel_rfl) (by omega)) ?_
       refine K.q [K.iv ((t + 1 : Nat) : Int)] (K.z (K.t ?_))
       refine ⟨_, ?_, t + 1, r_263, m_264, cc_265, rfl, ⟨by rfl, by rfl, by rfl, by rfl, by rfl, by rfl, trivial⟩, (by omega), (by exact ln_268), (by omega), (by omega), c_272, o_267, f_275⟩
       omega
      ·
       refine K.x ((((t : Nat) : Int) : Int) < (c.th : Int)) h_216 ?_
       refine K.z (K.t (K.f ?_))
       refine K.KW.exit ?_
       refine K.thn_exit ?_
       refine K.thn_exit ?_
       refine K.blk_hit ?_
       refine K.t (K.s (K.s ?_))
       -- region 23 ref.go:63
       refine K.g (K.q [K.iv 0] (K.z (K.t ?_)))
       refine K.KW.block ?_
       refine K.KW.loop (fun m_ F_ w_276 => ∃ (u : Nat) (pr : Option Addr) (pm : Nat) (pc : Nat), m_ = (c.th - (u : Nat) : Int).toNat ∧ K.Sl F_ [(0, .agg #[K.iv c.th, K.iv c.sl, K.iv c.lo, K.iv c.bu]), (1, K.pa r_2), (2, .slice none 0 0), (3, .slice pr pm pc), (7, K.iv ((u : Nat) : Int)), (111, undef)] ∧ ((u : Nat) : Int) ≤ c.th ∧ (lgT c u).length = pm ∧ pm ≤ 624 + 72 * u ∧ pm % 8 = 0 ∧ K.Chg K.No w0 w_276 ∧ K.Own w_276 w0.heap.size 115 3 pr pm pc ((lgT c u).flatMap cNm) ∧ K.Blk w_276 r_2 23 [K.iv c.th, K.iv c.sl, K.iv c.lo, K.iv c.bu]) ((fun (u : Nat) (pr : Option Addr) (pm : Nat) (pc : Nat) => (c.th - (u : Nat) : Int).toNat) 0 zr zm zc) ?_ ?_
       ·
        exact ⟨0, zr, zm, zc, rfl, ⟨by rfl, by rfl, by rfl, by rfl, by rfl, by rfl, trivial⟩, (by omega), (by exact (by have h := p_210; rw [show t = c.th.toNat by omega] at h; exact h)), (by omega), (by omega), c_208, (by have h := f_213; rw [show t = c.th.toNat by omega] at h; exact h), f_214⟩
       ·
        intro m_278 F_279 w_276 hI
        obtain ⟨u, pr, pm, pc, rfl, sl_280, p_282, p_283, p_284, p_285, c_281, f_286, f_287⟩ := hI
        rw [← K.Sl.puts sl_280]; clear sl_280
        have z_288 := c_281.size
        refine K.s (K.s ?_)
        -- region 24 ref.go:63
        refine K.g (K.q [K.iv ((u : Nat) : Int), K.pa r_2] ?_)
        refine K.d (K.iv c.th) (f_287.cell rfl) ?_
        by_cases h_289 : (((u : Nat) : Int) : Int) < (c.th : Int)
        ·
         refine K.y ((((u : Nat) : Int) : Int) < (c.th : Int)) h_289 ?_
         refine K.z (K.t (K.h (K.k (K.t (K.s ?_)))))
         refine K.KW.block ?_
         refine K.s (K.s ?_)
         -- region 26 ref.go:64
         refine K.g (K.q [K.iv 0] (K.z (K.t ?_)))
         refine K.KW.block ?_
         refine K.KW.loop (fun m_ F_ w_290 => ∃ (v : Nat) (qr : Option Addr) (qm : Nat) (qc : Nat), m_ = (c.lo - (v : Nat) : Int).toNat ∧ K.Sl F_ [(0, .agg #[K.iv c.th, K.iv c.sl, K.iv c.lo, K.iv c.bu]), (1, K.pa r_2), (2, .slice none 0 0), (3, .slice qr qm qc), (7, K.iv ((u : Nat) : Int)), (8, K.iv ((v : Nat) : Int)), (111, undef)] ∧ ((v : Nat) : Int) ≤ c.lo ∧ (lgI (lgT c u) u v).length = qm ∧ qm = pm + v ∧ K.Chg K.No w0 w_290 ∧ K.Own w_290 w0.heap.size 115 3 qr qm qc ((lgI (lgT c u) u v).flatMap cNm) ∧ K.Blk w_290 r_2 23 [K.iv c.th, K.iv c.sl, K.iv c.lo, K.iv c.bu]) ((fun (v : Nat) (qr : Option Addr) (qm : Nat) (qc : Nat) => (c.lo - (v : Nat) : Int).toNat) 0 pr pm pc) ?_ ?_
         ·
          exact ⟨0, pr, pm, pc, rfl, ⟨by rfl, by rfl, by rfl, by rfl, by rfl, by rfl, by rfl, trivial⟩, (by omega), (by exact p_283), (by omega), c_281, f_286, f_287⟩
         ·
          intro m_292 F_293 w_290 hI
          obtain ⟨v, qr, qm, qc, rfl, sl_294, p_296, p_297, p_298, c_295, f_299, f_300⟩ := hI
          rw [← K.Sl.puts sl_294]; clear sl_294
          have z_301 := c_295.size
          refine K.s (K.s ?_)
          -- region 27 ref.go:64
          refine K.g (K.q [K.iv ((v : Nat) : Int), .pointer (some ⟨r_2, 2, none⟩)] ?_)
          refine K.d (K.iv c.lo) (f_300.cell rfl) ?_
          by_cases h_302 : (((v : Nat) : Int) : Int) < (c.lo : Int)
          ·
           refine K.y ((((v : Nat) : Int) : Int) < (c.lo : Int)) h_302 ?_
           refine K.z (K.t (K.h (K.k (K.t (K.s ?_)))))
           refine K.KW.block ?_
           -- region 29 ref.go:65
           refine K.g (K.q [.slice qr qm qc, K.iv ((u : Nat) : Int), K.iv ((v : Nat) : Int)] ?_)
           refine K.a (K.QR.bd [(0, K.iv 8), (1, K.iv ((u : Nat) : Int)), (2, K.iv ((v : Nat) : Int))] [K.iv 8, K.iv ((u : Nat) : Int), K.iv ((v : Nat) : Int)] rfl rfl (by kernel_rfl)) ?_
           refine K.l (K.OW.bs rfl [(0, .agg #[K.iv 8, K.iv ((u : Nat) : Int), K.iv ((v : Nat) : Int)])] [K.iv 8, K.iv ((u : Nat) : Int), K.iv ((v : Nat) : Int)] rfl rfl (fun w => K.bs_run (P := Tryz.prog) w 123 115 1 _ _ Tryz.underlying123 (by kernel_rfl)) ?_)
           intro w_303 r_304 hr_305 e_306 hs_307 b_308
           have c_309 := c_295.no e_306
           have z_310 := c_309.size
           have zz_311 := e_306.size
           have f_312 := f_299.no e_306
           have f_313 := f_300.no e_306
           have ap_314 : ∀ k, K.Ow qr k → ¬ k = r_304 := fun k hk he => absurd (f_299.lt k hk) (by omega)
           refine K.l (K.OW.app2 (P := Tryz.prog) (xs := ((lgI (lgT c u) u v)).flatMap cNm) (z := .agg #[K.iv 0, K.iv 0, K.iv 0]) (size := 3) (bytes := 24) rfl [K.iv 8, K.iv ((u : Nat) : Int), K.iv ((v : Nat) : Int)] rfl rfl f_312 rfl Tryz.underlying123 (by kernel_rfl) rfl (by decide) (by rfl) (fun j u hj => (by rw [Nat.zero_add]; exact b_308.cell hj)) (K.one_cells (by rfl)) (by unfold maxLen; omega) (by omega) (by omega) ?_)
           intro a_315 cap_316 w_317 e_318 o_319 hk_320
           have c_321 := c_309.trans e_318 (fun i hi hy => absurd (f_312.base_le i hy) (by omega))
           have z_322 := c_321.size
           have zz_323 := e_318.size
           have f_324 := f_313.chg e_318 (fun hk => f_312.ne_ty f_313 (by decide) _ hk rfl)
           have o_319t := K.Own.snoc (c := cNm) (L := (lgI (lgT c u) u v)) (⟨8, ((u : Nat) : Int), ((v : Nat) : Int)⟩ : Nm) rfl o_319
           have ln_325 : (((lgI (lgT c u) u v) ++ [(⟨8, ((u : Nat) : Int), ((v : Nat) : Int)⟩ : Nm)])).length = qm + 1 := by rw [List.length_append, p_297]; rfl
           refine K.q [.slice a_315 (qm + 1) cap_316] (K.z ?_)
           refine K.blk_normal ?_
           refine K.t ?_
           -- region 28 ref.go:64
           refine K.g (K.q [K.iv ((v : Nat) : Int)] ?_)
           refine K.a (K.QR.n64 ((((v : Nat) : Int) : Int) + (1 : Int)) ((v + 1 : Nat) : Int) (by kernel_rfl) (by omega)) ?_
           refine K.q [K.iv ((v + 1 : Nat) : Int)] (K.z (K.t ?_))
           refine ⟨_, ?_, v + 1, a_315, qm + 1, cap_316, rfl, ⟨by rfl, by rfl, by rfl, by rfl, by rfl, by rfl, by rfl, trivial⟩, (by omega), (by exact ln_325), (by omega), c_321, o_319t, f_324⟩
           omega
          ·
           refine K.x ((((v : Nat) : Int) : Int) < (c.lo : Int)) h_302 ?_
           refine K.z (K.t (K.f ?_))
           refine K.KW.exit ?_
           refine K.thn_exit ?_
           refine K.thn_exit ?_
           refine K.blk_hit ?_
           refine K.t ?_
           -- region 30 ref.go:67
           refine K.g (K.q [.slice qr qm qc] ?_)
           refine K.l (K.OW.call rfl [.slice qr qm qc] rfl rfl (by kernel_rfl) (fill_ok w0.heap.size qr qm qc (lgI (lgT c u) u v) _ (by omega) p_297 (by omega) f_299) ?_)
           rintro _ w_334 ⟨r_326, m_327, cc_328, rfl, c_329, o_330, ln_331, hm_332, hr_333⟩
           have c_335 := c_295.trans c_329 (fun i hi hy => absurd (f_299.base_le i hy) (by omega))
           have z_336 := c_335.size
           have zz_337 := c_329.size
           have f_338 := f_300.chg c_329 (fun hk => f_299.ne_ty f_300 (by decide) _ hk rfl)
           refine K.q [.slice r_326 m_327 cc_328] (K.z ?_)
           refine K.blk_normal ?_
           refine K.t ?_
           -- region 25 ref.go:63
           refine K.g (K.q [K.iv ((u : Nat) : Int)] ?_)
           refine K.a (K.QR.n64 ((((u : Nat) : Int) : Int) + (1 : Int)) ((u + 1 : Nat) : Int) (by kernel_rfl) (by omega)) ?_
           refine K.q [K.iv ((u + 1 : Nat) : Int)] (K.z (K.t ?_))
           refine ⟨_, ?_, u + 1, r_326, m_327, cc_328, rfl, ⟨by rfl, by rfl, by rfl, by rfl, by rfl, by rfl, trivial⟩, (by omega), (by exact (by have h := ln_331; rw [show v = c.lo.toNat by omega] at h; exact h)), (by omega), (by omega), c_335, (by have h := o_330; rw [show v = c.lo.toNat by omega] at h; exact h), f_338⟩
           omega
        ·
         refine K.x ((((u : Nat) : Int) : Int) < (c.th : Int)) h_289 ?_
         refine K.z (K.t (K.f ?_))
         refine K.KW.exit ?_
         refine K.thn_exit ?_
         refine K.thn_exit ?_
         refine K.blk_hit ?_
         refine K.t (K.s (K.s ?_))
         -- region 31 ref.go:69
         refine K.g (K.q [K.iv 0] (K.z (K.t ?_)))
         refine K.KW.block ?_
         refine K.KW.loop (fun m_ F_ w_339 => ∃ (s : Nat) (er : Option Addr) (em : Nat) (ec : Nat), m_ = (c.sl - (s : Nat) : Int).toNat ∧ K.Sl F_ [(0, .agg #[K.iv c.th, K.iv c.sl, K.iv c.lo, K.iv c.bu]), (1, K.pa r_2), (2, .slice none 0 0), (3, .slice er em ec), (9, K.iv ((s : Nat) : Int)), (111, undef)] ∧ ((s : Nat) : Int) ≤ c.sl ∧ (slT c s).length = em ∧ em ≤ 5300 + 8 * s ∧ em % 8 = 0 ∧ K.Chg K.No w0 w_339 ∧ K.Own w_339 w0.heap.size 115 3 er em ec ((slT c s).flatMap cNm) ∧ K.Blk w_339 r_2 23 [K.iv c.th, K.iv c.sl, K.iv c.lo, K.iv c.bu]) ((fun (s : Nat) (er : Option Addr) (em : Nat) (ec : Nat) => (c.sl - (s : Nat) : Int).toNat) 0 pr pm pc) ?_ ?_
         ·
          exact ⟨0, pr, pm, pc, rfl, ⟨by rfl, by rfl, by rfl, by rfl, by rfl, by rfl, trivial⟩, (by omega), (by exact (by have h := p_283; rw [show u = c.th.toNat by omega] at h; exact h)), (by omega), (by omega), c_281, (by have h := f_286; rw [show u = c.th.toNat by omega] at h; exact h), f_287⟩
         ·
          intro m_341 F_342 w_339 hI
          obtain ⟨s, er, em, ec, rfl, sl_343, p_345, p_346, p_347, p_348, c_344, f_349, f_350⟩ := hI
          rw [← K.Sl.puts sl_343]; clear sl_343
          have z_351 := c_344.size
          refine K.s (K.s ?_)
          -- region 32 ref.go:69
          refine K.g (K.q [K.iv ((s : Nat) : Int), .pointer (some ⟨r_2, 1, none⟩)] ?_)
          refine K.d (K.iv c.sl) (f_350.cell rfl) ?_
          by_cases h_352 : (((s : Nat) : Int) : Int) < (c.sl : Int)
          ·
           refine K.y ((((s : Nat) : Int) : Int) < (c.sl : Int)) h_352 ?_
           refine K.z (K.t (K.h (K.k (K.t (K.s ?_)))))
           refine K.KW.block ?_
           refine K.s (K.s ?_)
           -- region 34 ref.go:70
           refine K.g (K.q [K.iv 9] (K.z (K.t ?_)))
           refine K.KW.block ?_
           refine K.KW.loop (fun m_ F_ w_353 => ∃ (k : Nat) (fr : Option Addr) (fm : Nat) (fc : Nat), m_ = (5 - (k : Nat) : Int).toNat ∧ K.Sl F_ [(0, .agg #[K.iv c.th, K.iv c.sl, K.iv c.lo, K.iv c.bu]), (1, K.pa r_2), (2, .slice none 0 0), (3, .slice fr fm fc), (9, K.iv ((s : Nat) : Int)), (10, K.iv ((9 + k : Nat) : Int)), (111, undef)] ∧ ((k : Nat) : Int) ≤ 5 ∧ (slI (slT c s) s k).length = fm ∧ fm = em + k ∧ K.Chg K.No w0 w_353 ∧ K.Own w_353 w0.heap.size 115 3 fr fm fc ((slI (slT c s) s k).flatMap cNm) ∧ K.Blk w_353 r_2 23 [K.iv c.th, K.iv c.sl, K.iv c.lo, K.iv c.bu]) ((fun (k : Nat) (fr : Option Addr) (fm : Nat) (fc : Nat) => (5 - (k : Nat) : Int).toNat) 0 er em ec) ?_ ?_
           ·
            exact ⟨0, er, em, ec, rfl, ⟨by rfl, by rfl, by rfl, by rfl, by rfl, by rfl, by rfl, trivial⟩, (by omega), (by exact p_346), (by omega), c_344, f_349, f_350⟩
           ·
            intro m_355 F_356 w_353 hI
            obtain ⟨k, fr, fm, fc, rfl, sl_357, p_359, p_360, p_361, c_358, f_362, f_363⟩ := hI
            rw [← K.Sl.puts sl_357]; clear sl_357
            have z_364 := c_358.size
            refine K.s (K.s ?_)
            -- region 35 ref.go:70
            refine K.g (K.q [K.iv ((9 + k : Nat) : Int)] ?_)
            by_cases h_365 : (((9 + k : Nat) : Int) : Int) ≤ (13 : Int)
            ·
             refine K.y ((((9 + k : Nat) : Int) : Int) ≤ (13 : Int)) h_365 ?_
             refine K.z (K.t (K.h (K.k (K.t (K.s ?_)))))
             refine K.KW.block ?_
             -- region 37 ref.go:71
             refine K.g (K.q [.slice fr fm fc, K.iv ((9 + k : Nat) : Int), K.iv ((s : Nat) : Int)] ?_)
             refine K.a (K.QR.bd [(0, K.iv ((9 + k : Nat) : Int)), (1, K.iv ((s : Nat) : Int))] [K.iv ((9 + k : Nat) : Int), K.iv ((s : Nat) : Int), K.iv 0] rfl rfl (by kernel_rfl)) ?_
             refine K.l (K.OW.bs rfl [(0, .agg #[K.iv ((9 + k : Nat) : Int), K.iv ((s : Nat) : Int), K.iv 0])] [K.iv ((9 + k : Nat) : Int), K.iv ((s : Nat) : Int), K.iv 0] rfl rfl (fun w => K.bs_run (P := Tryz.prog) w 123 115 1 _ _ Tryz.underlying123 (by kernel_rfl)) ?_)
             intro w_366 r_367 hr_368 e_369 hs_370 b_371
             have c_372 := c_358.no e_369
             have z_373 := c_372.size
             have zz_374 := e_369.size
             have f_375 := f_362.no e_369
             have f_376 := f_363.no e_369
             have ap_377 : ∀ k, K.Ow fr k → ¬ k = r_367 := fun k hk he => absurd (f_362.lt k hk) (by omega)
             refine K.l (K.OW.app2 (P := Tryz.prog) (xs := ((slI (slT c s) s k)).flatMap cNm) (z := .agg #[K.iv 0, K.iv 0, K.iv 0]) (size := 3) (bytes := 24) rfl [K.iv ((9 + k : Nat) : Int), K.iv ((s : Nat) : Int), K.iv 0] rfl rfl f_375 rfl Tryz.underlying123 (by kernel_rfl) rfl (by decide) (by rfl) (fun j u hj => (by rw [Nat.zero_add]; exact b_371.cell hj)) (K.one_cells (by rfl)) (by unfold maxLen; omega) (by omega) (by omega) ?_)
             intro a_378 cap_379 w_380 e_381 o_382 hk_383
             have c_384 := c_372.trans e_381 (fun i hi hy => absurd (f_375.base_le i hy) (by omega))
             have z_385 := c_384.size
             have zz_386 := e_381.size
             have f_387 := f_376.chg e_381 (fun hk => f_375.ne_ty f_376 (by decide) _ hk rfl)
             have o_382t := K.Own.snoc (c := cNm) (L := (slI (slT c s) s k)) (⟨((9 + k : Nat) : Int), ((s : Nat) : Int), 0⟩ : Nm) rfl o_382
             have ln_388 : (((slI (slT c s) s k) ++ [(⟨((9 + k : Nat) : Int), ((s : Nat) : Int), 0⟩ : Nm)])).length = fm + 1 := by rw [List.length_append, p_360]; rfl
             refine K.q [.slice a_378 (fm + 1) cap_379] (K.z ?_)
             refine K.blk_normal ?_
             refine K.t ?_
             -- region 36 ref.go:70
             refine K.g (K.q [K.iv ((9 + k : Nat) : Int)] ?_)
             refine K.a (K.QR.n64 ((((9 + k : Nat) : Int) : Int) + (1 : Int)) ((9 + k + 1 : Nat) : Int) (by kernel_rfl) (by omega)) ?_
             refine K.q [K.iv ((9 + k + 1 : Nat) : Int)] (K.z (K.t ?_))
             refine ⟨_, ?_, k + 1, a_378, fm + 1, cap_379, rfl, ⟨by rfl, by rfl, by rfl, by rfl, by rfl, by rfl, by rfl, trivial⟩, (by omega), (by exact ln_388), (by omega), c_384, o_382t, f_387⟩
             omega
            ·
             refine K.x ((((9 + k : Nat) : Int) : Int) ≤ (13 : Int)) h_365 ?_
             refine K.z (K.t (K.f ?_))
             refine K.KW.exit ?_
             refine K.thn_exit ?_
             refine K.thn_exit ?_
             refine K.blk_hit ?_
             refine K.t ?_
             -- region 38 ref.go:73
             refine K.g (K.q [.slice fr fm fc] ?_)
             refine K.l (K.OW.call rfl [.slice fr fm fc] rfl rfl (by kernel_rfl) (fill_ok w0.heap.size fr fm fc (slI (slT c s) s k) _ (by omega) p_360 (by omega) f_362) ?_)
             rintro _ w_397 ⟨r_389, m_390, cc_391, rfl, c_392, o_393, ln_394, hm_395, hr_396⟩
             have c_398 := c_358.trans c_392 (fun i hi hy => absurd (f_362.base_le i hy) (by omega))
             have z_399 := c_398.size
             have zz_400 := c_392.size
             have f_401 := f_363.chg c_392 (fun hk => f_362.ne_ty f_363 (by decide) _ hk rfl)
             refine K.q [.slice r_389 m_390 cc_391] (K.z ?_)
             refine K.blk_normal ?_
             refine K.t ?_
             -- region 33 ref.go:69
             refine K.g (K.q [K.iv ((s : Nat) : Int)] ?_)
             refine K.a (K.QR.n64 ((((s : Nat) : Int) : Int) + (1 : Int)) ((s + 1 : Nat) : Int) (by kernel_rfl) (by omega)) ?_
             refine K.q [K.iv ((s + 1 : Nat) : Int)] (K.z (K.t ?_))
             refine ⟨_, ?_, s + 1, r_389, m_390, cc_391, rfl, ⟨by rfl, by rfl, by rfl, by rfl, by rfl, by rfl, trivial⟩, (by omega), (by exact (by have h := ln_394; rw [show k = 5 by omega] at h; exact h)), (by omega), (by omega), c_398, (by have h := o_393; rw [show k = 5 by omega] at h; exact h), f_401⟩
             omega
          ·
           refine K.x ((((s : Nat) : Int) : Int) < (c.sl : Int)) h_352 ?_
           refine K.z (K.t (K.f ?_))
           refine K.KW.exit ?_
           refine K.thn_exit ?_
           refine K.thn_exit ?_
           refine K.blk_hit ?_
           refine K.t (K.s ?_)
           -- region 39 ref.go:75
           refine K.g (K.q [.slice er em ec, .slice er em ec] (K.z (K.t (K.r ?_))))
           refine ⟨.inr rfl, rfl, (.slice er em ec), K.res1 rfl rfl, ?_⟩
           exact ⟨_, _, _, rfl, c_344, (by have h := f_349; rw [show s = c.sl.toNat by omega] at h; exact h), (by have h := p_346; rw [show s = c.sl.toNat by omega] at h; exact h)⟩
set_option maxHeartbeats 1000000 in
set_option maxRecDepth 100000 in
theorem passing_ok (c : Cfg) (w0 : World) (hc : cfgOk c) :
  K.KC Tryz.prog 62 #[.agg #[K.iv c.th, K.iv c.sl, K.iv c.lo, K.iv c.bu]] w0 (fun v w' => ∃ r m cc, v = .slice r m cc ∧ K.Chg K.No w0 w' ∧ K.Own w' w0.heap.size 115 3 r m cc ((passing c).flatMap cNm) ∧ (passing c).length = m) := by
 have hcc := hc
 unfold cfgOk at hcc
 refine K.KC.mk (n := 32) Tryz.func62 rfl rfl [.agg #[K.iv c.th, K.iv c.sl, K.iv c.lo, K.iv c.bu]] rfl rfl ?_
 refine K.s ?_
 -- region 0 ref.go:79
 refine K.g ?_
 refine K.l (K.OW.new (t := 23) rfl (fun r => K.pa r) [K.iv c.th, K.iv c.sl, K.iv c.lo, K.iv c.bu] (by kernel_rfl) ?_)
 intro w_1 r_2 hr_3 e_4 hs_5 b_6
 have c_7 := e_4
 have z_8 := c_7.size
 have zz_9 := e_4.size
 refine K.q [.slice none 0 0] (K.z (K.t (K.s ?_)))
 -- region 1 ref.go:80
 refine K.g ?_
 refine K.a (K.QR.bd [(0, K.iv 14)] [K.iv 14, K.iv 0, K.iv 0] rfl rfl (by kernel_rfl)) ?_
 refine K.a (K.QR.bd [(0, K.iv 15)] [K.iv 15, K.iv 0, K.iv 0] rfl rfl (by kernel_rfl)) ?_
 refine K.l (K.OW.bs rfl [(0, .agg #[K.iv 14, K.iv 0, K.iv 0]), (1, .agg #[K.iv 15, K.iv 0, K.iv 0])] [K.iv 14, K.iv 0, K.iv 0, K.iv 15, K.iv 0, K.iv 0] rfl rfl (fun w => K.bs_run (P := Tryz.prog) w 123 115 2 _ _ Tryz.underlying123 (by kernel_rfl)) ?_)
 intro w_10 r_11 hr_12 e_13 hs_14 b_15
 have c_16 := c_7.no e_13
 have z_17 := c_16.size
 have zz_18 := e_13.size
 have f_19 := b_6.no e_13
 refine K.q [.slice (some ⟨r_11, 0, none⟩) 2 2] (K.z (K.t (K.s (K.s ?_))))
 -- region 2 ref.go:81
 refine K.g (K.q [K.iv 0] (K.z (K.t ?_)))
 refine K.KW.block ?_
 refine K.KW.loop (fun m_ F_ w_20 => ∃ (t : Nat) (xr : Option Addr) (xm : Nat) (xc : Nat), m_ = (c.th - (t : Nat) : Int).toNat ∧ K.Sl F_ [(0, .agg #[K.iv c.th, K.iv c.sl, K.iv c.lo, K.iv c.bu]), (1, K.pa r_2), (2, .slice none 0 0), (3, .slice xr xm xc), (4, K.iv ((t : Nat) : Int)), (32, undef)] ∧ ((t : Nat) : Int) ≤ c.th ∧ (psT t).length = xm ∧ xm = 2 + t ∧ K.Chg K.No w0 w_20 ∧ K.Own w_20 w0.heap.size 115 3 xr xm xc ((psT t).flatMap cNm) ∧ K.Blk w_20 r_2 23 [K.iv c.th, K.iv c.sl, K.iv c.lo, K.iv c.bu]) ((fun (t : Nat) (xr : Option Addr) (xm : Nat) (xc : Nat) => (c.th - (t : Nat) : Int).toNat) 0 (some ⟨r_11, 0, none⟩) 2 2) ?_ ?_
 ·
  exact ⟨0, (some ⟨r_11, 0, none⟩), 2, 2, rfl, ⟨by rfl, by rfl, by rfl, by rfl, by rfl, by rfl, trivial⟩, (by omega), (by rfl), (by omega), c_16, (K.Own.of_blkL (base := w0.heap.size) (n := 2) (c := cNm) (L := [⟨14, 0, 0⟩, ⟨15, 0, 0⟩]) b_15 (by omega) rfl (by unfold maxLen; omega) (fun _ => rfl) rfl), f_19⟩
 ·
  intro m_22 F_23 w_20 hI
  obtain ⟨t, xr, xm, xc, rfl, sl_24, p_26, p_27, p_28, c_25, f_29, f_30⟩ := hI
  rw [← K.Sl.puts sl_24]; clear sl_24
  have z_31 := c_25.size
  refine K.s (K.s ?_)
  -- region 3 ref.go:81
  refine K.g (K.q [K.iv ((t : Nat) : Int), K.pa r_2] ?_)
  refine K.d (K.iv c.th) (f_30.cell rfl) ?_
  by_cases h_32 : (((t : Nat) : Int) : Int) < (c.th : Int)
  ·
   refine K.y ((((t : Nat) : Int) : Int) < (c.th : Int)) h_32 ?_
   refine K.z (K.t (K.h (K.k (K.t (K.s ?_)))))
   refine K.KW.block ?_
   -- region 5 ref.go:82
   refine K.g (K.q [.slice xr xm xc, K.iv ((t : Nat) : Int)] ?_)
   refine K.a (K.QR.bd [(0, K.iv 16), (1, K.iv ((t : Nat) : Int))] [K.iv 16, K.iv ((t : Nat) : Int), K.iv 0] rfl rfl (by kernel_rfl)) ?_
   refine K.l (K.OW.bs rfl [(0, .agg #[K.iv 16, K.iv ((t : Nat) : Int), K.iv 0])] [K.iv 16, K.iv ((t : Nat) : Int), K.iv 0] rfl rfl (fun w => K.bs_run (P := Tryz.prog) w 123 115 1 _ _ Tryz.underlying123 (by kernel_rfl)) ?_)
   intro w_33 r_34 hr_35 e_36 hs_37 b_38
   have c_39 := c_25.no e_36
   have z_40 := c_39.size
   have zz_41 := e_36.size
   have f_42 := f_29.no e_36
   have f_43 := f_30.no e_36
   have ap_44 : ∀ k, K.Ow xr k → ¬ k = r_34 := fun k hk he => absurd (f_29.lt k hk) (by omega)
   refine K.l (K.OW.app2 (P := Tryz.prog) (xs := ((psT t)).flatMap cNm) (z := .agg #[K.iv 0, K.iv 0, K.iv 0]) (size := 3) (bytes := 24) rfl [K.iv 16, K.iv ((t : Nat) : Int), K.iv 0] rfl rfl f_42 rfl Tryz.underlying123 (by kernel_rfl) rfl (by decide) (by rfl) (fun j u hj => (by rw [Nat.zero_add]; exact b_38.cell hj)) (K.one_cells (by rfl)) (by unfold maxLen; omega) (by omega) (by omega) ?_)
   intro a_45 cap_46 w_47 e_48 o_49 hk_50
   have c_51 := c_39.trans e_48 (fun i hi hy => absurd (f_42.base_le i hy) (by omega))
   have z_52 := c_51.size
   have zz_53 := e_48.size
   have f_54 := f_43.chg e_48 (fun hk => f_42.ne_ty f_43 (by decide) _ hk rfl)
   have o_49t := K.Own.snoc (c := cNm) (L := (psT t)) (⟨16, ((t : Nat) : Int), 0⟩ : Nm) rfl o_49
   have ln_55 : (((psT t) ++ [(⟨16, ((t : Nat) : Int), 0⟩ : Nm)])).length = xm + 1 := by rw [List.length_append, p_27]; rfl
   refine K.q [.slice a_45 (xm + 1) cap_46] (K.z ?_)
   refine K.blk_normal ?_
   refine K.t ?_
   -- region 4 ref.go:81
   refine K.g (K.q [K.iv ((t : Nat) : Int)] ?_)
   refine K.a (K.QR.n64 ((((t : Nat) : Int) : Int) + (1 : Int)) ((t + 1 : Nat) : Int) (by kernel_rfl) (by omega)) ?_
   refine K.q [K.iv ((t + 1 : Nat) : Int)] (K.z (K.t ?_))
   refine ⟨_, ?_, t + 1, a_45, xm + 1, cap_46, rfl, ⟨by rfl, by rfl, by rfl, by rfl, by rfl, by rfl, trivial⟩, (by omega), (by exact ln_55), (by omega), c_51, o_49t, f_54⟩
   omega
  ·
   refine K.x ((((t : Nat) : Int) : Int) < (c.th : Int)) h_32 ?_
   refine K.z (K.t (K.f ?_))
   refine K.KW.exit ?_
   refine K.thn_exit ?_
   refine K.thn_exit ?_
   refine K.blk_hit ?_
   refine K.t (K.s (K.s ?_))
   -- region 6 ref.go:84
   refine K.g (K.q [K.iv 0] (K.z (K.t ?_)))
   refine K.KW.block ?_
   refine K.KW.loop (fun m_ F_ w_56 => ∃ (s : Nat) (yr : Option Addr) (ym : Nat) (yc : Nat), m_ = (c.sl - (s : Nat) : Int).toNat ∧ K.Sl F_ [(0, .agg #[K.iv c.th, K.iv c.sl, K.iv c.lo, K.iv c.bu]), (1, K.pa r_2), (2, .slice none 0 0), (3, .slice yr ym yc), (5, K.iv ((s : Nat) : Int)), (32, undef)] ∧ ((s : Nat) : Int) ≤ c.sl ∧ (pfT c s).length = ym ∧ ym = 2 + c.th.toNat + s ∧ K.Chg K.No w0 w_56 ∧ K.Own w_56 w0.heap.size 115 3 yr ym yc ((pfT c s).flatMap cNm) ∧ K.Blk w_56 r_2 23 [K.iv c.th, K.iv c.sl, K.iv c.lo, K.iv c.bu]) ((fun (s : Nat) (yr : Option Addr) (ym : Nat) (yc : Nat) => (c.sl - (s : Nat) : Int).toNat) 0 xr xm xc) ?_ ?_
   ·
    exact ⟨0, xr, xm, xc, rfl, ⟨by rfl, by rfl, by rfl, by rfl, by rfl, by rfl, trivial⟩, (by omega), (by exact (by have h := p_27; rw [show t = c.th.toNat by omega] at h; exact h)), (by omega), c_25, (by have h := f_29; rw [show t = c.th.toNat by omega] at h; exact h), f_30⟩
   ·
    intro m_58 F_59 w_56 hI
    obtain ⟨s, yr, ym, yc, rfl, sl_60, p_62, p_63, p_64, c_61, f_65, f_66⟩ := hI
    rw [← K.Sl.puts sl_60]; clear sl_60
    have z_67 := c_61.size
    refine K.s (K.s ?_)
    -- region 7 ref.go:84
    refine K.g (K.q [K.iv ((s : Nat) : Int), .pointer (some ⟨r_2, 1, none⟩)] ?_)
    refine K.d (K.iv c.sl) (f_66.cell rfl) ?_
    by_cases h_68 : (((s : Nat) : Int) : Int) < (c.sl : Int)
    ·
     refine K.y ((((s : Nat) : Int) : Int) < (c.sl : Int)) h_68 ?_
     refine K.z (K.t (K.h (K.k (K.t (K.s ?_)))))
     refine K.KW.block ?_
     -- region 9 ref.go:85
     refine K.g (K.q [.slice yr ym yc, K.iv ((s : Nat) : Int)] ?_)
     refine K.a (K.QR.bd [(0, K.iv 17), (1, K.iv ((s : Nat) : Int))] [K.iv 17, K.iv ((s : Nat) : Int), K.iv 0] rfl rfl (by kernel_rfl)) ?_
     refine K.l (K.OW.bs rfl [(0, .agg #[K.iv 17, K.iv ((s : Nat) : Int), K.iv 0])] [K.iv 17, K.iv ((s : Nat) : Int), K.iv 0] rfl rfl (fun w => K.bs_run (P := Tryz.prog) w 123 115 1 _ _ Tryz.underlying123 (by kernel_rfl)) ?_)
     intro w_69 r_70 hr_71 e_72 hs_73 b_74
     have c_75 := c_61.no e_72
     have z_76 := c_75.size
     have zz_77 := e_72.size
     have f_78 := f_65.no e_72
     have f_79 := f_66.no e_72
     have ap_80 : ∀ k, K.Ow yr k → ¬ k = r_70 := fun k hk he => absurd (f_65.lt k hk) (by omega)
     refine K.l (K.OW.app2 (P := Tryz.prog) (xs := ((pfT c s)).flatMap cNm) (z := .agg #[K.iv 0, K.iv 0, K.iv 0]) (size := 3) (bytes := 24) rfl [K.iv 17, K.iv ((s : Nat) : Int), K.iv 0] rfl rfl f_78 rfl Tryz.underlying123 (by kernel_rfl) rfl (by decide) (by rfl) (fun j u hj => (by rw [Nat.zero_add]; exact b_74.cell hj)) (K.one_cells (by rfl)) (by unfold maxLen; omega) (by omega) (by omega) ?_)
     intro a_81 cap_82 w_83 e_84 o_85 hk_86
     have c_87 := c_75.trans e_84 (fun i hi hy => absurd (f_78.base_le i hy) (by omega))
     have z_88 := c_87.size
     have zz_89 := e_84.size
     have f_90 := f_79.chg e_84 (fun hk => f_78.ne_ty f_79 (by decide) _ hk rfl)
     have o_85t := K.Own.snoc (c := cNm) (L := (pfT c s)) (⟨17, ((s : Nat) : Int), 0⟩ : Nm) rfl o_85
     have ln_91 : (((pfT c s) ++ [(⟨17, ((s : Nat) : Int), 0⟩ : Nm)])).length = ym + 1 := by rw [List.length_append, p_63]; rfl
     refine K.q [.slice a_81 (ym + 1) cap_82] (K.z ?_)
     refine K.blk_normal ?_
     refine K.t ?_
     -- region 8 ref.go:84
     refine K.g (K.q [K.iv ((s : Nat) : Int)] ?_)
     refine K.a (K.QR.n64 ((((s : Nat) : Int) : Int) + (1 : Int)) ((s + 1 : Nat) : Int) (by kernel_rfl) (by omega)) ?_
     refine K.q [K.iv ((s + 1 : Nat) : Int)] (K.z (K.t ?_))
     refine ⟨_, ?_, s + 1, a_81, ym + 1, cap_82, rfl, ⟨by rfl, by rfl, by rfl, by rfl, by rfl, by rfl, trivial⟩, (by omega), (by exact ln_91), (by omega), c_87, o_85t, f_90⟩
     omega
    ·
     refine K.x ((((s : Nat) : Int) : Int) < (c.sl : Int)) h_68 ?_
     refine K.z (K.t (K.f ?_))
     refine K.KW.exit ?_
     refine K.thn_exit ?_
     refine K.thn_exit ?_
     refine K.blk_hit ?_
     refine K.t (K.s ?_)
     -- region 10 ref.go:87
     refine K.g (K.q [.slice yr ym yc, .slice yr ym yc] (K.z (K.t (K.r ?_))))
     refine ⟨.inr rfl, rfl, (.slice yr ym yc), K.res1 rfl rfl, ?_⟩
     exact ⟨_, _, _, rfl, c_61, (by have h := f_65; rw [show s = c.sl.toNat by omega] at h; exact h), (by have h := p_63; rw [show s = c.sl.toNat by omega] at h; exact h)⟩
end Go.Proofs.YtbfafebfkdbglaaGreat
