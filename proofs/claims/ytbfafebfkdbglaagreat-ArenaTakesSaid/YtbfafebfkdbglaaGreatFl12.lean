import Derived.Test.YtbfafebfkdbglaaGreatFl12p
import Derived.Test.YtbfafebfkdbglaaGreatKi
import Derived.Test.YtbfafebfkdbglaaGreatFlist
/- Layer 12: what the statements call; the page's example. -/
namespace Go.Proofs.YtbfafebfkdbglaaGreat
open Go.RowKit
set_option linter.unusedVariables false
attribute [local irreducible] K.KW K.RW K.DW K.OW K.QR K.KC
theorem mPeekD_ok (w0 : World) (p q n t : Nat) (M : MemM) (l : K.Cs) (x : MemAt l p q n t M) (i : Int) (hi : isInt i) : K.GC Tryz.prog w0 36 #[K.pa p, K.iv i] [l] (fun v post => v = .tuple #[.int .u64 ((M.peek n i).getD 0), .bool (M.peek n i).isSome] ∧ post = [l]) := by
 refine (mPeek_ok w0 p q n t M l x i hi).mono ?_
 rintro v post ⟨rfl, ⟨y, rfl, e⟩ | ⟨rfl, e⟩⟩
 ·rw [e]; exact ⟨rfl, rfl⟩
 ·rw [e]; exact ⟨rfl, rfl⟩
structure TkG (c : Cfg) (S : TkS) : Prop where
 good : S.good c
 ps : isInt S.pop.slot
theorem tkStep_ps {c : Cfg} {n nt : Nat} {S : TkS} {M : MemM} (h : isInt S.pop.slot) : isInt (tkStep c n nt S M).1.pop.slot := by
 have h0 : isInt (-1) := by omega
 unfold tkStep
 split
 ·exact h
 split
 ·unfold tkPop
  split
  ·split
   ·exact popStep_slot h
   split
   ·exact popStep_slot h
   ·exact popStep_slot h
  ·exact popStep_slot h
 split
 ·unfold tkAdv; split
  ·exact h
  ·exact h
 split
 ·unfold tkRec; split
  ·exact h0
  ·exact h
 split
 ·exact h
 split
 ·exact h
 split
 ·exact h
 split
 ·exact h
 ·exact h
theorem TkG.step {c : Cfg} (hc : cfgOk c) {n nt : Nat} {S : TkS} {M : MemM} (h : TkG c S) (hM : M.good) : TkG c (tkStep c n nt S M).1 ∧ (tkStep c n nt S M).2.good :=
 ⟨⟨(tkStep_good hc h.good h.ps hM).1, tkStep_ps h.ps⟩, (tkStep_good hc h.good h.ps hM).2⟩
theorem TkG.init {c : Cfg} (hc : cfgOk c) {t : Int} (ht : isInt t) : TkG c (tkInit t) := ⟨tkInit_good hc ht, by show isInt (-1); omega⟩
def tkIt (c : Cfg) (n nt : Nat) (S : TkS) (M : MemM) : Nat → TkS × MemM
 | 0 => (S, M)
 | i + 1 => tkStep c n nt (tkIt c n nt S M i).1 (tkIt c n nt S M i).2
theorem tkIt_good {c : Cfg} (hc : cfgOk c) {n nt : Nat} {S : TkS} {M : MemM} (h : TkG c S) (hM : M.good) : ∀ i, TkG c (tkIt c n nt S M i).1 ∧ (tkIt c n nt S M i).2.good
 | 0 => ⟨h, hM⟩
 | i + 1 => (tkIt_good hc h hM i).1.step hc (tkIt_good hc h hM i).2
theorem rowsR_ok (w0 : World) (c : Cfg) (hc : cfgOk c) (a : Option Addr) (cap j : Nat) (hj : j ≤ 1000) (gx : K.Cs) (hx : ∀ w, K.Sat w0 [gx] w → K.RowE w a (rangeI j).length 1 (fun i => cI64 ((rangeI j).getD i 0))) :
  K.GC Tryz.prog w0 90 #[.agg #[K.iv c.th, K.iv c.sl, K.iv c.lo, K.iv c.bu], .slice a j cap] [gx] (fun v post => ∃ r cc l2, v = .agg #[K.iv c.th, K.iv c.sl, K.iv c.lo, K.iv c.bu, .slice r (rowsTo c (rangeI j) j).length cc] ∧ post = [gx, l2] ∧ K.OwnG l2 117 2 r (rowsTo c (rangeI j) j).length cc ((rowsTo c (rangeI j) j).flatMap cPut)) := by
 have h := rows_ok w0 c hc a cap (rangeI j) (by rw [rangeI_len]; exact hj) gx hx
 simp only [rangeI_len] at h
 exact h
set_option maxHeartbeats 1000000 in
set_option maxRecDepth 100000 in
theorem all12_ok (w0 : World) (c : Cfg) (hc : cfgOk c) (h30 : c.sl ≤ 30) :
  K.GC Tryz.prog w0 31 #[.agg #[K.iv c.th, K.iv c.sl, K.iv c.lo, K.iv c.bu]] [] (fun v post => ∃ r cc l2, v = .agg #[K.iv c.th, K.iv c.sl, K.iv c.lo, K.iv c.bu, .slice r (rowsTo c (rangeI c.sl.toNat) c.sl.toNat).length cc] ∧ post = [l2] ∧ K.OwnG l2 117 2 r (rowsTo c (rangeI c.sl.toNat) c.sl.toNat).length cc ((rowsTo c (rangeI c.sl.toNat) c.sl.toNat).flatMap cPut)) := by
 have hcc := hc
 unfold cfgOk at hcc
 refine K.GC.mk (n := 22) Tryz.func31 rfl rfl [.agg #[K.iv c.th, K.iv c.sl, K.iv c.lo, K.iv c.bu]] rfl rfl ?_
 intro fr w hS
 replace hS : K.Sat w0 [fr] w := hS
 refine K.s (K.g ?_)
 refine K.l (K.OW.gnew 23 [K.iv c.th, K.iv c.sl, K.iv c.lo, K.iv c.bu] hS ?_)
 clear hS; intro w r_1 g_2 hg_3 hS
 refine K.l (K.OW.gnew 38 [K.iv 0, K.iv 0, K.iv 0, K.iv 0, .slice none 0 0] hS ?_)
 clear hS; intro w r_4 g_5 hg_6 hS
 refine K.z (K.t (K.s (K.g (K.q [.slice none 0 0] (K.z (K.t (K.s (K.s (K.g (K.q [K.iv 0] (K.z (K.t ?_))))))))))))
 refine K.KW.block ?_
 obtain ⟨z_7, hz_8⟩ : ∃ z : K.Cs, z = [] := ⟨_, rfl⟩
 replace hS : K.Sat w0 [z_7, g_5, g_2, fr] w := hS.of (by simp [hz_8])
 have o_9 : K.OwnG z_7 3 1 none 0 0 [] := by rw [hz_8]; exact K.OwnG.nil _ _
 refine K.KW.loop (fun m_ F_ w_ => ∃ (j : Nat) (q1 : Option Addr) (c1 : Nat) (o1 : K.Cs), m_ = 30 - j ∧ K.Sl F_ [(0, .agg #[K.iv c.th, K.iv c.sl, K.iv c.lo, K.iv c.bu]), (1, K.pa r_1), (2, K.pa r_4), (3, .slice q1 j c1), (4, K.iv ((j : Nat) : Int)), (22, undef)] ∧ j ≤ 30 ∧ (j : Int) ≤ c.sl ∧ K.OwnG o1 3 1 q1 j c1 (((rangeI j)).flatMap cI64) ∧ K.Sat w0 [o1, g_5, g_2, fr] w_) ((fun (j : Nat) (q1 : Option Addr) (c1 : Nat) => 30 - j) 0 none 0) ?_ ?_
 ·
  exact ⟨0, none, 0, z_7, rfl, ⟨by rfl, by rfl, by rfl, by rfl, by rfl, by rfl, trivial⟩, (by omega), (by omega), o_9, hS.pick [0, 1, 2, 3]⟩
 ·
  clear hS
  intro m_10 F_11 w hI
  obtain ⟨j, q1, c1, o1, rfl, sl_12, p_13, p_14, x_15, hS⟩ := hI
  rw [← K.Sl.puts sl_12]; clear sl_12
  refine K.s (K.s (K.g (K.q [K.iv ((j : Nat) : Int), .pointer (some ⟨r_1, 1, none⟩)] ?_)))
  refine K.d (K.iv c.sl) ((hS.blk 2 rfl hg_3).cell rfl) ?_
  by_cases h_16 : (((j : Nat) : Int) : Int) < (c.sl : Int)
  ·
   refine K.y ((((j : Nat) : Int) : Int) < (c.sl : Int)) h_16 ?_
   refine K.q [.bool true, K.iv ((j : Nat) : Int)] ?_
   by_cases h_17 : (((j : Nat) : Int) : Int) < (30 : Int)
   ·
    refine K.y ((((j : Nat) : Int) : Int) < (30 : Int)) h_17 ?_
    refine K.q [.bool true] (K.z (K.t (K.h (K.k (K.t (K.s ?_))))))
    refine K.KW.block ?_
    refine K.g (K.q [.slice q1 j c1, K.iv ((j : Nat) : Int)] ?_)
    refine K.l (K.OW.gbs [(0, K.iv ((j : Nat) : Int))] [K.iv ((j : Nat) : Int)] hS (fun w => K.bs_run (P := Tryz.prog) w 44 3 1 _ _ Tryz.underlying44 (by kernel_rfl)) ?_)
    clear hS; intro w r_18 g_19 hg_20 hS
    refine K.l (K.OW.gapp (P := Tryz.prog) (xs := ((rangeI j)).flatMap cI64) (z := K.iv 0) (size := 1) (bytes := 8) 1 [K.iv ((j : Nat) : Int)] hS x_15 ?_ (fun j u hj => (by rw [Nat.zero_add]; exact (hS.blk 0 rfl hg_20).cell hj)) (K.one_cells (by rfl)) (by rfl) Tryz.underlying44 (by kernel_rfl) rfl (by decide) (by unfold maxLen; omega) (by omega))
    clear hS; intro a_21 cap_22 w l_23 o_24 hS
    have ln_25 : (((rangeI j) ++ [(((j : Nat) : Int) : Int)])).length = j + 1 := by rw [List.length_append, (rangeI_len j)]; rfl
    have o_24c := K.OwnG.cast (xs' := (((rangeI j) ++ [(((j : Nat) : Int) : Int)])).flatMap cI64) o_24 rfl (K.fl_snoc cI64 (rangeI j) _ rfl)
    replace hS : K.Sat w0 [g_19, l_23, g_5, g_2, fr] w := hS
    refine K.q [.slice a_21 (j + 1) cap_22] (K.z ?_)
    refine K.blk_normal ?_
    refine K.t (K.g (K.q [K.iv ((j : Nat) : Int)] ?_))
    refine K.a (K.QR.n64 ((((j : Nat) : Int) : Int) + (1 : Int)) ((j + 1 : Nat) : Int) (by kernel_rfl) (by omega)) ?_
    refine K.q [K.iv ((j + 1 : Nat) : Int)] (K.z (K.t ?_))
    refine ⟨_, ?_, j + 1, a_21, cap_22, l_23, rfl, ⟨by rfl, by rfl, by rfl, by rfl, by rfl, by rfl, trivial⟩, (by omega), (by omega), (by rw [rangeI_succ]; exact o_24c), hS.pick [1, 2, 3, 4]⟩
    omega
   ·
    refine K.x ((((j : Nat) : Int) : Int) < (30 : Int)) h_17 ?_
    refine K.q [.bool false] (K.z (K.t (K.f ?_)))
    refine K.KW.exit ?_
    refine K.thn_exit ?_
    refine K.thn_exit ?_
    refine K.blk_hit ?_
    refine K.t (K.s (K.g ?_))
    refine K.a (K.QR.ldN [K.iv c.th, K.iv c.sl, K.iv c.lo, K.iv c.bu] rfl rfl (by kernel_rfl) (by kernel_rfl) (K.cells (K.cl ((hS.blk 2 rfl hg_3).cell rfl) (K.cl ((hS.blk 2 rfl hg_3).cell rfl) (K.cl ((hS.blk 2 rfl hg_3).cell rfl) (K.cl ((hS.blk 2 rfl hg_3).cell rfl) K.cl0)))))) ?_
    refine K.q [.slice q1 j c1] ?_
    refine K.l (K.OW.gcall hS [0] [1, 2, 3] [.agg #[K.iv c.th, K.iv c.sl, K.iv c.lo, K.iv c.bu], .slice q1 j c1] (rowsR_ok _ c (by first | assumption | (unfold cfgOk; decide)) _ _ j (by omega) _ (fun w h => K.RowE.len (K.Own.rowE 0 (h.ownr 0 rfl x_15) (rangeI_len j) (fun _ => rfl)) (rangeI_len j))) ?_)
    clear hS; rintro _ _ w ⟨r_26, c_27, l_28, rfl, rfl, o_29⟩ hS
    replace hS : K.Sat w0 [o1, l_28, g_5, g_2, fr] w := hS
    refine K.l (K.OW.gst 2 [K.iv c.th, K.iv c.sl, K.iv c.lo, K.iv c.bu, .slice r_26 ((rowsTo c (rangeI j) j).length) c_27] _ hS hg_6 ?_)
    clear hS; intro w g_30 hg_31 hS
    replace hS : K.Sat w0 [o1, l_28, g_30, g_2, fr] w := hS
    refine K.z (K.t (K.r ?_))
    have er : rowsTo c (rangeI j) j = rowsTo c (rangeI c.sl.toNat) c.sl.toNat := by rw [show j = c.sl.toNat by omega]
    refine ⟨.inr rfl, rfl, (.agg #[K.iv c.th, K.iv c.sl, K.iv c.lo, K.iv c.bu, .slice r_26 ((rowsTo c (rangeI j) j).length) c_27]), K.resAt (rs := [.cell 2 38]) [.agg #[K.iv c.th, K.iv c.sl, K.iv c.lo, K.iv c.bu, .slice r_26 ((rowsTo c (rangeI j) j).length) c_27]] rfl ⟨⟨_, rfl, K.lvN [K.iv c.th, K.iv c.sl, K.iv c.lo, K.iv c.bu, .slice r_26 ((rowsTo c (rangeI j) j).length) c_27] (by kernel_rfl) (by kernel_rfl) (K.cells (K.cl ((hS.blk 2 rfl hg_31).cell rfl) (K.cl ((hS.blk 2 rfl hg_31).cell rfl) (K.cl ((hS.blk 2 rfl hg_31).cell rfl) (K.cl ((hS.blk 2 rfl hg_31).cell rfl) (K.cl ((hS.blk 2 rfl hg_31).cell rfl) K.cl0))))))⟩, trivial⟩, [l_28], ?_, hS.pick [1, 4]⟩
    exact ⟨_, _, _, by rw [← er], rfl, by rw [← er]; exact o_29⟩
  ·
   refine K.x ((((j : Nat) : Int) : Int) < (c.sl : Int)) h_16 ?_
   refine K.q [.bool false] (K.n_ (K.n_ (K.q [.bool false] (K.z (K.t (K.f ?_))))))
   refine K.KW.exit ?_
   refine K.thn_exit ?_
   refine K.thn_exit ?_
   refine K.blk_hit ?_
   refine K.t (K.s (K.g ?_))
   refine K.a (K.QR.ldN [K.iv c.th, K.iv c.sl, K.iv c.lo, K.iv c.bu] rfl rfl (by kernel_rfl) (by kernel_rfl) (K.cells (K.cl ((hS.blk 2 rfl hg_3).cell rfl) (K.cl ((hS.blk 2 rfl hg_3).cell rfl) (K.cl ((hS.blk 2 rfl hg_3).cell rfl) (K.cl ((hS.blk 2 rfl hg_3).cell rfl) K.cl0)))))) ?_
   refine K.q [.slice q1 j c1] ?_
   refine K.l (K.OW.gcall hS [0] [1, 2, 3] [.agg #[K.iv c.th, K.iv c.sl, K.iv c.lo, K.iv c.bu], .slice q1 j c1] (rowsR_ok _ c (by first | assumption | (unfold cfgOk; decide)) _ _ j (by omega) _ (fun w h => K.RowE.len (K.Own.rowE 0 (h.ownr 0 rfl x_15) (rangeI_len j) (fun _ => rfl)) (rangeI_len j))) ?_)
   clear hS; rintro _ _ w ⟨r_32, c_33, l_34, rfl, rfl, o_35⟩ hS
   replace hS : K.Sat w0 [o1, l_34, g_5, g_2, fr] w := hS
   refine K.l (K.OW.gst 2 [K.iv c.th, K.iv c.sl, K.iv c.lo, K.iv c.bu, .slice r_32 ((rowsTo c (rangeI j) j).length) c_33] _ hS hg_6 ?_)
   clear hS; intro w g_36 hg_37 hS
   replace hS : K.Sat w0 [o1, l_34, g_36, g_2, fr] w := hS
   refine K.z (K.t (K.r ?_))
   have er : rowsTo c (rangeI j) j = rowsTo c (rangeI c.sl.toNat) c.sl.toNat := by rw [show j = c.sl.toNat by omega]
   refine ⟨.inr rfl, rfl, (.agg #[K.iv c.th, K.iv c.sl, K.iv c.lo, K.iv c.bu, .slice r_32 ((rowsTo c (rangeI j) j).length) c_33]), K.resAt (rs := [.cell 2 38]) [.agg #[K.iv c.th, K.iv c.sl, K.iv c.lo, K.iv c.bu, .slice r_32 ((rowsTo c (rangeI j) j).length) c_33]] rfl ⟨⟨_, rfl, K.lvN [K.iv c.th, K.iv c.sl, K.iv c.lo, K.iv c.bu, .slice r_32 ((rowsTo c (rangeI j) j).length) c_33] (by kernel_rfl) (by kernel_rfl) (K.cells (K.cl ((hS.blk 2 rfl hg_37).cell rfl) (K.cl ((hS.blk 2 rfl hg_37).cell rfl) (K.cl ((hS.blk 2 rfl hg_37).cell rfl) (K.cl ((hS.blk 2 rfl hg_37).cell rfl) (K.cl ((hS.blk 2 rfl hg_37).cell rfl) K.cl0))))))⟩, trivial⟩, [l_34], ?_, hS.pick [1, 4]⟩
   exact ⟨_, _, _, by rw [← er], rfl, by rw [← er]; exact o_35⟩
def avC : Cfg := ⟨1, 1, 1, 1⟩
def av0 : MemM := groundM (lns avC).toNat avC.th.toNat (2 + avC.th + avC.sl).toNat (rowsTo avC (rangeI avC.sl.toNat) avC.sl.toNat)
set_option maxHeartbeats 4000000 in
set_option maxRecDepth 100000 in
theorem awake12_ok (w0 : World)  :
  K.GC Tryz.prog w0 30 #[] [] (fun v post => v = .bool true ∧ post = []) := by
 have hcA : cfgOk ⟨1, 1, 1, 1⟩ := by unfold cfgOk; decide
 refine K.GC.mk (n := 91) Tryz.func30 rfl rfl [] rfl rfl ?_
 intro fr w hS
 replace hS : K.Sat w0 [fr] w := hS
 refine K.s (K.g (K.q [.bool false] (K.z (K.t (K.s (K.g ?_))))))
 refine K.a (K.QR.bd [(0, K.iv 1), (1, K.iv 1), (2, K.iv 1), (3, K.iv 1)] [K.iv 1, K.iv 1, K.iv 1, K.iv 1] rfl rfl (by kernel_rfl)) ?_
 refine K.l (K.OW.gcall hS [] [0] [.agg #[K.iv 1, K.iv 1, K.iv 1, K.iv 1]] (all12_ok _ (⟨1, 1, 1, 1⟩ : Cfg) (by first | assumption | (unfold cfgOk; decide)) (by first | omega | decide)) ?_)
 clear hS; rintro _ _ w ⟨r_1, c_2, l_3, rfl, rfl, o_4⟩ hS
 replace hS : K.Sat w0 [l_3, fr] w := hS
 refine K.l (K.OW.gcall hS [0] [1] [.agg #[K.iv 1, K.iv 1, K.iv 1, K.iv 1, .slice r_1 ((rowsTo (⟨1, 1, 1, 1⟩ : Cfg) (rangeI (⟨1, 1, 1, 1⟩ : Cfg).sl.toNat) (⟨1, 1, 1, 1⟩ : Cfg).sl.toNat).length) c_2]] (layS_ok _ (⟨1, 1, 1, 1⟩ : Cfg) _ _ (rowsTo (⟨1, 1, 1, 1⟩ : Cfg) (rangeI (⟨1, 1, 1, 1⟩ : Cfg).sl.toNat) (⟨1, 1, 1, 1⟩ : Cfg).sl.toNat) (fun j hj => (rows_good (by first | assumption | (unfold cfgOk; decide)) _ _ j hj).1) (⟨by unfold fewC cfgOk; decide, by decide⟩) _ (fun w h => K.RowE.len (K.Own.rowE pu0 (h.ownr 0 rfl o_4) rfl (fun _ => rfl)) rfl)) ?_)
 clear hS; rintro _ _ w ⟨b_5, p_6, q_7, r_8, u_9, _, _, gl_10, l_11, m_12, rfl, rfl, hl_13, x_14, y_15, rfl, rfl, hf_16, hp_17⟩ hS
 replace hS : K.Sat w0 [l_3, gl_10, l_11, m_12, fr] w := hS
 replace x_14 : MemAt l_11 p_6 q_7 ((lns (⟨1, 1, 1, 1⟩ : Cfg)).toNat) ((⟨1, 1, 1, 1⟩ : Cfg).th.toNat) av0 := x_14
 have hM0 : av0.good := ground_good (fun j hj => (rows_good (by unfold cfgOk; decide) _ _ j hj).2)
 refine K.q [.tuple #[K.pa b_5, K.pa p_6, K.pa r_8, .bool true], K.pa b_5, K.pa p_6, K.pa r_8, .bool true, K.pa b_5, K.pa p_6, K.pa r_8, .bool true] (K.z (K.t (K.s (K.g (K.q [K.pa b_5] ?_)))))
 refine K.l (K.OW.gcall hS [] [0, 1, 2, 3, 4] [K.pa b_5, K.iv 0] (newtkE_ok _ b_5 (0 : Int) (by omega)) ?_)
 clear hS; rintro _ _ w ⟨p_18, g_19, rfl, rfl, h_20⟩ hS
 replace hS : K.Sat w0 [g_19, l_3, gl_10, l_11, m_12, fr] w := hS
 refine K.q [K.pa b_5] ?_
 refine K.l (K.OW.gcall hS [] [0, 1, 2, 3, 4, 5] [K.pa b_5, K.iv 0] (newtkE_ok _ b_5 (0 : Int) (by omega)) ?_)
 clear hS; rintro _ _ w ⟨p_21, g_22, rfl, rfl, h_23⟩ hS
 replace hS : K.Sat w0 [g_22, g_19, l_3, gl_10, l_11, m_12, fr] w := hS
 refine K.q [K.pa p_18, K.pa p_21] (K.z (K.t (K.s (K.g (K.q [K.pa p_6] ?_)))))
 refine K.l (K.OW.gcall hS [4] [0, 1, 2, 3, 5, 6] [K.pa p_6] (mClock_ok _ _ _ _ _ _ _ x_14 ) ?_)
 clear hS; rintro _ _ w ⟨rfl, rfl⟩ hS
 replace hS : K.Sat w0 [l_11, g_22, g_19, l_3, gl_10, m_12, fr] w := hS
 refine K.q [K.iv av0.clock] (K.z (K.t (K.s (K.s (K.g (K.q [K.iv 0] (K.z (K.t ?_))))))))
 refine K.KW.block ?_
 refine K.KW.loop (fun m_ F_ w_ => ∃ (i : Nat) (g1i : K.Cs) (l1i : K.Cs), m_ = 30 - i ∧ K.Sl F_ [(0, .bool false), (1, K.pa b_5), (2, K.pa p_6), (4, .bool true), (5, K.pa p_18), (6, K.pa p_21), (7, K.iv av0.clock), (8, K.iv ((i : Nat) : Int)), (91, undef)] ∧ i ≤ 30 ∧ TkEl p_18 b_5 ((tkIt avC (lns avC).toNat avC.th.toNat (tkInit 0) av0 i).1) g1i ∧ MemAt l1i p_6 q_7 ((lns (⟨1, 1, 1, 1⟩ : Cfg)).toNat) ((⟨1, 1, 1, 1⟩ : Cfg).th.toNat) (tkIt avC (lns avC).toNat avC.th.toNat (tkInit 0) av0 i).2 ∧ K.Sat w0 [l1i, g_22, g1i, l_3, gl_10, m_12, fr] w_) ((fun (i : Nat) => 30 - i) 0) ?_ ?_
 ·
  exact ⟨0, g_19, l_11, rfl, ⟨by rfl, by rfl, by rfl, by rfl, by rfl, by rfl, by rfl, by rfl, by rfl, trivial⟩, (by omega), h_20, x_14, hS.pick [0, 1, 2, 3, 4, 5, 6]⟩
 ·
  clear hS
  intro m_24 F_25 w hI
  obtain ⟨i, g1i, l1i, rfl, sl_26, p_27, x_28, x_29, hS⟩ := hI
  rw [← K.Sl.puts sl_26]; clear sl_26
  obtain ⟨hSii, hMii⟩ := tkIt_good (c := avC) (n := (lns avC).toNat) (nt := avC.th.toNat) (S := tkInit 0) (M := av0) (by unfold cfgOk; decide) (TkG.init (by unfold cfgOk; decide) (by omega)) hM0 i
  refine K.s (K.s (K.g (K.q [K.iv ((i : Nat) : Int)] ?_)))
  by_cases h_30 : (((i : Nat) : Int) : Int) < (30 : Int)
  ·
   refine K.y ((((i : Nat) : Int) : Int) < (30 : Int)) h_30 ?_
   refine K.z (K.t (K.h (K.k (K.t (K.s ?_)))))
   refine K.KW.block ?_
   refine K.g (K.q [K.pa p_18, K.pa p_6] ?_)
   refine K.l (K.OW.gcall hS [2, 4, 0] [1, 3, 5, 6] [K.pa p_18, K.pa p_6] (tkStep_ok _ _ _ _ _ _ _ (⟨1, 1, 1, 1⟩ : Cfg) (by first | assumption | (unfold cfgOk; decide)) ((tkIt avC (lns avC).toNat avC.th.toNat (tkInit 0) av0 i).1) ((tkIt avC (lns avC).toNat avC.th.toNat (tkInit 0) av0 i).2) _ _ _ x_28 hl_13 x_29 (by assumption) (TkG.good (by assumption))) ?_)
   clear hS; rintro _ _ w ⟨g_31, l_32, rfl, rfl, h_33, x_34⟩ hS
   replace hS : K.Sat w0 [g_31, gl_10, l_32, g_22, l_3, m_12, fr] w := hS
   obtain ⟨hS_35, hM_36⟩ := (TkG.step (by first | assumption | (unfold cfgOk; decide)) (by assumption) (by assumption) : TkG (⟨1, 1, 1, 1⟩ : Cfg) (tkStep (⟨1, 1, 1, 1⟩ : Cfg) ((lns (⟨1, 1, 1, 1⟩ : Cfg)).toNat) ((⟨1, 1, 1, 1⟩ : Cfg).th.toNat) ((tkIt avC (lns avC).toNat avC.th.toNat (tkInit 0) av0 i).1) ((tkIt avC (lns avC).toNat avC.th.toNat (tkInit 0) av0 i).2)).1 ∧ (tkStep (⟨1, 1, 1, 1⟩ : Cfg) ((lns (⟨1, 1, 1, 1⟩ : Cfg)).toNat) ((⟨1, 1, 1, 1⟩ : Cfg).th.toNat) ((tkIt avC (lns avC).toNat avC.th.toNat (tkInit 0) av0 i).1) ((tkIt avC (lns avC).toNat avC.th.toNat (tkInit 0) av0 i).2)).2.good)
   refine K.z ?_
   refine K.blk_normal ?_
   refine K.t (K.g (K.q [K.iv ((i : Nat) : Int)] ?_))
   refine K.a (K.QR.n64 ((((i : Nat) : Int) : Int) + (1 : Int)) ((i + 1 : Nat) : Int) (by kernel_rfl) (by omega)) ?_
   refine K.q [K.iv ((i + 1 : Nat) : Int)] (K.z (K.t ?_))
   refine ⟨_, ?_, i + 1, g_31, l_32, rfl, ⟨by rfl, by rfl, by rfl, by rfl, by rfl, by rfl, by rfl, by rfl, by rfl, trivial⟩, (by omega), h_33, x_34, hS.pick [2, 3, 0, 4, 1, 5, 6]⟩
   omega
  ·
   refine K.x ((((i : Nat) : Int) : Int) < (30 : Int)) h_30 ?_
   refine K.z (K.t (K.f ?_))
   refine K.KW.exit ?_
   refine K.thn_exit ?_
   refine K.thn_exit ?_
   refine K.blk_hit ?_
   refine K.t (K.s ?_)
   obtain rfl : i = 30 := by omega
   refine K.g (K.q [K.pa p_6] ?_)
   refine K.l (K.OW.gcall hS [0] [1, 2, 3, 4, 5, 6] [K.pa p_6] (mClock_ok _ _ _ _ _ _ _ x_29 ) ?_)
   clear hS; rintro _ _ w ⟨rfl, rfl⟩ hS
   replace hS : K.Sat w0 [l1i, g_22, g1i, l_3, gl_10, m_12, fr] w := hS
   refine K.q [K.iv av0.clock, K.iv (IntKind.i64.wrap ((((tkIt avC (lns avC).toNat avC.th.toNat (tkInit 0) av0 30).2).clock : Int) - (av0.clock : Int))), K.iv (IntKind.i64.wrap ((((tkIt avC (lns avC).toNat avC.th.toNat (tkInit 0) av0 30).2).clock : Int) - (av0.clock : Int)))] (K.z (K.t (K.s (K.s (K.g (K.q [K.iv 0] (K.z (K.t ?_))))))))
   refine K.KW.block ?_
   refine K.KW.loop (fun m_ F_ w_ => ∃ (k : Nat) (g1k : K.Cs) (l1k : K.Cs), m_ = 30 - k ∧ K.Sl F_ [(0, .bool false), (1, K.pa b_5), (2, K.pa p_6), (4, .bool true), (5, K.pa p_18), (6, K.pa p_21), (9, K.iv (IntKind.i64.wrap ((((tkIt avC (lns avC).toNat avC.th.toNat (tkInit 0) av0 30).2).clock : Int) - (av0.clock : Int)))), (10, K.iv ((k : Nat) : Int)), (91, undef)] ∧ k ≤ 30 ∧ TkEl p_21 b_5 ((tkIt avC (lns avC).toNat avC.th.toNat (tkInit 0) (tkIt avC (lns avC).toNat avC.th.toNat (tkInit 0) av0 30).2 k).1) g1k ∧ MemAt l1k p_6 q_7 ((lns (⟨1, 1, 1, 1⟩ : Cfg)).toNat) ((⟨1, 1, 1, 1⟩ : Cfg).th.toNat) (tkIt avC (lns avC).toNat avC.th.toNat (tkInit 0) (tkIt avC (lns avC).toNat avC.th.toNat (tkInit 0) av0 30).2 k).2 ∧ K.Sat w0 [l1k, g1k, g1i, l_3, gl_10, m_12, fr] w_) ((fun (k : Nat) => 30 - k) 0) ?_ ?_
   ·
    exact ⟨0, g_22, l1i, rfl, ⟨by rfl, by rfl, by rfl, by rfl, by rfl, by rfl, by rfl, by rfl, by rfl, trivial⟩, (by omega), h_23, x_29, hS.pick [0, 1, 2, 3, 4, 5, 6]⟩
   ·
    clear hS
    intro m_37 F_38 w hI
    obtain ⟨k, g1k, l1k, rfl, sl_39, p_40, x_41, x_42, hS⟩ := hI
    rw [← K.Sl.puts sl_39]; clear sl_39
    obtain ⟨hSik, hMik⟩ := tkIt_good (c := avC) (n := (lns avC).toNat) (nt := avC.th.toNat) (S := tkInit 0) (M := (tkIt avC (lns avC).toNat avC.th.toNat (tkInit 0) av0 30).2) (by unfold cfgOk; decide) (TkG.init (by unfold cfgOk; decide) (by omega)) hMii k
    refine K.s (K.s (K.g (K.q [K.iv ((k : Nat) : Int)] ?_)))
    by_cases h_43 : (((k : Nat) : Int) : Int) < (30 : Int)
    ·
     refine K.y ((((k : Nat) : Int) : Int) < (30 : Int)) h_43 ?_
     refine K.z (K.t (K.h (K.k (K.t (K.s ?_)))))
     refine K.KW.block ?_
     refine K.g (K.q [K.pa p_21, K.pa p_6] ?_)
     refine K.l (K.OW.gcall hS [1, 4, 0] [2, 3, 5, 6] [K.pa p_21, K.pa p_6] (tkStep_ok _ _ _ _ _ _ _ (⟨1, 1, 1, 1⟩ : Cfg) (by first | assumption | (unfold cfgOk; decide)) ((tkIt avC (lns avC).toNat avC.th.toNat (tkInit 0) (tkIt avC (lns avC).toNat avC.th.toNat (tkInit 0) av0 30).2 k).1) ((tkIt avC (lns avC).toNat avC.th.toNat (tkInit 0) (tkIt avC (lns avC).toNat avC.th.toNat (tkInit 0) av0 30).2 k).2) _ _ _ x_41 hl_13 x_42 (by assumption) (TkG.good (by assumption))) ?_)
     clear hS; rintro _ _ w ⟨g_44, l_45, rfl, rfl, h_46, x_47⟩ hS
     replace hS : K.Sat w0 [g_44, gl_10, l_45, g1i, l_3, m_12, fr] w := hS
     obtain ⟨hS_48, hM_49⟩ := (TkG.step (by first | assumption | (unfold cfgOk; decide)) (by assumption) (by assumption) : TkG (⟨1, 1, 1, 1⟩ : Cfg) (tkStep (⟨1, 1, 1, 1⟩ : Cfg) ((lns (⟨1, 1, 1, 1⟩ : Cfg)).toNat) ((⟨1, 1, 1, 1⟩ : Cfg).th.toNat) ((tkIt avC (lns avC).toNat avC.th.toNat (tkInit 0) (tkIt avC (lns avC).toNat avC.th.toNat (tkInit 0) av0 30).2 k).1) ((tkIt avC (lns avC).toNat avC.th.toNat (tkInit 0) (tkIt avC (lns avC).toNat avC.th.toNat (tkInit 0) av0 30).2 k).2)).1 ∧ (tkStep (⟨1, 1, 1, 1⟩ : Cfg) ((lns (⟨1, 1, 1, 1⟩ : Cfg)).toNat) ((⟨1, 1, 1, 1⟩ : Cfg).th.toNat) ((tkIt avC (lns avC).toNat avC.th.toNat (tkInit 0) (tkIt avC (lns avC).toNat avC.th.toNat (tkInit 0) av0 30).2 k).1) ((tkIt avC (lns avC).toNat avC.th.toNat (tkInit 0) (tkIt avC (lns avC).toNat avC.th.toNat (tkInit 0) av0 30).2 k).2)).2.good)
     refine K.z ?_
     refine K.blk_normal ?_
     refine K.t (K.g (K.q [K.iv ((k : Nat) : Int)] ?_))
     refine K.a (K.QR.n64 ((((k : Nat) : Int) : Int) + (1 : Int)) ((k + 1 : Nat) : Int) (by kernel_rfl) (by omega)) ?_
     refine K.q [K.iv ((k + 1 : Nat) : Int)] (K.z (K.t ?_))
     refine ⟨_, ?_, k + 1, g_44, l_45, rfl, ⟨by rfl, by rfl, by rfl, by rfl, by rfl, by rfl, by rfl, by rfl, by rfl, trivial⟩, (by omega), h_46, x_47, hS.pick [2, 0, 3, 4, 1, 5, 6]⟩
     omega
    ·
     refine K.x ((((k : Nat) : Int) : Int) < (30 : Int)) h_43 ?_
     refine K.z (K.t (K.f ?_))
     refine K.KW.exit ?_
     refine K.thn_exit ?_
     refine K.thn_exit ?_
     refine K.blk_hit ?_
     refine K.t (K.s ?_)
     obtain rfl : k = 30 := by omega
     refine K.g (K.q [K.pa p_6, K.pa b_5] ?_)
     refine K.l (K.OW.kcall hS [K.pa b_5, K.iv 0] (lGen _ (⟨1, 1, 1, 1⟩ : Cfg) 0 _ (by assumption) (hS.blk 4 rfl hl_13)) ?_)
     rintro _ w ⟨rfl, c_50⟩
     replace hS := hS.no c_50
     have hi_51 : isInt (genS (⟨1, 1, 1, 1⟩ : Cfg) (0 : Int)) := gen_int (by assumption) _
     refine K.l (K.OW.gcall hS [0] [1, 2, 3, 4, 5, 6] [K.pa p_6, K.iv (genS (⟨1, 1, 1, 1⟩ : Cfg) (0 : Int))] (mPeekD_ok _ _ _ _ _ _ _ x_42 (genS (⟨1, 1, 1, 1⟩ : Cfg) (0 : Int)) (by first | omega | assumption | exact int_int (by assumption) _ | exact gen_int (by assumption) _ | exact aft_int (by assumption) _ | exact ann_int (by assumption) _ (by omega))) ?_)
     clear hS; rintro _ _ w ⟨rfl, rfl⟩ hS
     replace hS : K.Sat w0 [l1k, g1k, g1i, l_3, gl_10, m_12, fr] w := hS
     have hw_52 : isW ((((tkIt avC (lns avC).toNat avC.th.toNat (tkInit 0) (tkIt avC (lns avC).toNat avC.th.toNat (tkInit 0) av0 30).2 30).2).peek ((lns (⟨1, 1, 1, 1⟩ : Cfg)).toNat) (genS (⟨1, 1, 1, 1⟩ : Cfg) (0 : Int))).getD 0) := peek0_W (by assumption)
     refine K.q [.tuple #[.int .u64 ((((tkIt avC (lns avC).toNat avC.th.toNat (tkInit 0) (tkIt avC (lns avC).toNat avC.th.toNat (tkInit 0) av0 30).2 30).2).peek ((lns (⟨1, 1, 1, 1⟩ : Cfg)).toNat) (genS (⟨1, 1, 1, 1⟩ : Cfg) (0 : Int))).getD 0), .bool ((((tkIt avC (lns avC).toNat avC.th.toNat (tkInit 0) (tkIt avC (lns avC).toNat avC.th.toNat (tkInit 0) av0 30).2 30).2).peek ((lns (⟨1, 1, 1, 1⟩ : Cfg)).toNat) (genS (⟨1, 1, 1, 1⟩ : Cfg) (0 : Int))).isSome)], .int .u64 ((((tkIt avC (lns avC).toNat avC.th.toNat (tkInit 0) (tkIt avC (lns avC).toNat avC.th.toNat (tkInit 0) av0 30).2 30).2).peek ((lns (⟨1, 1, 1, 1⟩ : Cfg)).toNat) (genS (⟨1, 1, 1, 1⟩ : Cfg) (0 : Int))).getD 0), .bool ((((tkIt avC (lns avC).toNat avC.th.toNat (tkInit 0) (tkIt avC (lns avC).toNat avC.th.toNat (tkInit 0) av0 30).2 30).2).peek ((lns (⟨1, 1, 1, 1⟩ : Cfg)).toNat) (genS (⟨1, 1, 1, 1⟩ : Cfg) (0 : Int))).isSome), .int .u64 ((((tkIt avC (lns avC).toNat avC.th.toNat (tkInit 0) (tkIt avC (lns avC).toNat avC.th.toNat (tkInit 0) av0 30).2 30).2).peek ((lns (⟨1, 1, 1, 1⟩ : Cfg)).toNat) (genS (⟨1, 1, 1, 1⟩ : Cfg) (0 : Int))).getD 0), .bool ((((tkIt avC (lns avC).toNat avC.th.toNat (tkInit 0) (tkIt avC (lns avC).toNat avC.th.toNat (tkInit 0) av0 30).2 30).2).peek ((lns (⟨1, 1, 1, 1⟩ : Cfg)).toNat) (genS (⟨1, 1, 1, 1⟩ : Cfg) (0 : Int))).isSome)] (K.z (K.t (K.s (K.g (K.q [.bool true, .bool true, K.pa p_18] ?_)))))
     refine K.l (K.OW.gcall hS [2] [0, 1, 3, 4, 5, 6] [K.pa p_18] (tkDoneE_ok _ _ _ ((tkIt avC (lns avC).toNat avC.th.toNat (tkInit 0) av0 30).1) _ x_28) ?_)
     clear hS; rintro _ _ w ⟨rfl, rfl⟩ hS
     replace hS : K.Sat w0 [g1i, l1k, g1k, l_3, gl_10, m_12, fr] w := hS
     cases hb_53 : ((tkIt avC (lns avC).toNat avC.th.toNat (tkInit 0) av0 30).1).done
     ·cases (hb_53.symm.trans (show ((tkIt avC (lns avC).toNat avC.th.toNat (tkInit 0) av0 30).1).done = true from by kernel_rfl))
     ·
      refine K.q [.bool true, .bool true, K.pa p_18] ?_
      refine K.l (K.OW.gcall hS [0] [1, 2, 3, 4, 5, 6] [K.pa p_18] (tkSlotE_ok _ _ _ ((tkIt avC (lns avC).toNat avC.th.toNat (tkInit 0) av0 30).1) _ x_28) ?_)
      clear hS; rintro _ _ w ⟨rfl, rfl⟩ hS
      replace hS : K.Sat w0 [g1i, l1k, g1k, l_3, gl_10, m_12, fr] w := hS
      refine K.ye ((if ((tkIt avC (lns avC).toNat avC.th.toNat (tkInit 0) av0 30).1).done = true then ((tkIt avC (lns avC).toNat avC.th.toNat (tkInit 0) av0 30).1).slot else -1) : Int) (0 : Int) (by kernel_rfl) ?_
      refine K.q [.bool true, .bool true, K.pa p_18] ?_
      refine K.l (K.OW.gcall hS [0] [1, 2, 3, 4, 5, 6] [K.pa p_18] (tkHoldsE_ok _ _ _ (⟨1, 1, 1, 1⟩ : Cfg) ((tkIt avC (lns avC).toNat avC.th.toNat (tkInit 0) av0 30).1) _ x_28 (TkG.good (by assumption))) ?_)
      clear hS; rintro _ _ w ⟨rfl, rfl⟩ hS
      replace hS : K.Sat w0 [g1i, l1k, g1k, l_3, gl_10, m_12, fr] w := hS
      refine K.ye ((tkHolds ((tkIt avC (lns avC).toNat avC.th.toNat (tkInit 0) av0 30).1)) : Int) (0 : Int) (by kernel_rfl) ?_
      refine K.q [.bool true, .bool true, K.iv (IntKind.i64.wrap ((((tkIt avC (lns avC).toNat avC.th.toNat (tkInit 0) av0 30).2).clock : Int) - (av0.clock : Int)))] ?_
      refine K.ye (IntKind.i64.wrap ((((tkIt avC (lns avC).toNat avC.th.toNat (tkInit 0) av0 30).2).clock : Int) - (av0.clock : Int)) : Int) (8 : Int) (by kernel_rfl) ?_
      refine K.q [.bool true, .bool true, .int .u64 ((((tkIt avC (lns avC).toNat avC.th.toNat (tkInit 0) (tkIt avC (lns avC).toNat avC.th.toNat (tkInit 0) av0 30).2 30).2).peek ((lns (⟨1, 1, 1, 1⟩ : Cfg)).toNat) (genS (⟨1, 1, 1, 1⟩ : Cfg) (0 : Int))).getD 0)] ?_
      refine K.ye (((((tkIt avC (lns avC).toNat avC.th.toNat (tkInit 0) (tkIt avC (lns avC).toNat avC.th.toNat (tkInit 0) av0 30).2 30).2).peek ((lns (⟨1, 1, 1, 1⟩ : Cfg)).toNat) (genS (⟨1, 1, 1, 1⟩ : Cfg) (0 : Int))).getD 0) : Int) (1 : Int) (by kernel_rfl) ?_
      refine K.q [.bool true, .bool true, K.pa p_21] ?_
      refine K.l (K.OW.gcall hS [2] [0, 1, 3, 4, 5, 6] [K.pa p_21] (tkDoneE_ok _ _ _ ((tkIt avC (lns avC).toNat avC.th.toNat (tkInit 0) (tkIt avC (lns avC).toNat avC.th.toNat (tkInit 0) av0 30).2 30).1) _ x_41) ?_)
      clear hS; rintro _ _ w ⟨rfl, rfl⟩ hS
      replace hS : K.Sat w0 [g1k, g1i, l1k, l_3, gl_10, m_12, fr] w := hS
      cases hb_54 : ((tkIt avC (lns avC).toNat avC.th.toNat (tkInit 0) (tkIt avC (lns avC).toNat avC.th.toNat (tkInit 0) av0 30).2 30).1).done
      ·cases (hb_54.symm.trans (show ((tkIt avC (lns avC).toNat avC.th.toNat (tkInit 0) (tkIt avC (lns avC).toNat avC.th.toNat (tkInit 0) av0 30).2 30).1).done = true from by kernel_rfl))
      ·
       refine K.q [.bool true, .bool true, K.pa p_21] ?_
       refine K.l (K.OW.gcall hS [0] [1, 2, 3, 4, 5, 6] [K.pa p_21] (tkSlotE_ok _ _ _ ((tkIt avC (lns avC).toNat avC.th.toNat (tkInit 0) (tkIt avC (lns avC).toNat avC.th.toNat (tkInit 0) av0 30).2 30).1) _ x_41) ?_)
       clear hS; rintro _ _ w ⟨rfl, rfl⟩ hS
       replace hS : K.Sat w0 [g1k, g1i, l1k, l_3, gl_10, m_12, fr] w := hS
       refine K.ye ((if ((tkIt avC (lns avC).toNat avC.th.toNat (tkInit 0) (tkIt avC (lns avC).toNat avC.th.toNat (tkInit 0) av0 30).2 30).1).done = true then ((tkIt avC (lns avC).toNat avC.th.toNat (tkInit 0) (tkIt avC (lns avC).toNat avC.th.toNat (tkInit 0) av0 30).2 30).1).slot else -1) : Int) ((-1) : Int) (by kernel_rfl) ?_
       refine K.q [.bool true, .bool true, K.pa p_21] ?_
       refine K.l (K.OW.gcall hS [0] [1, 2, 3, 4, 5, 6] [K.pa p_21] (tkEmptyE_ok _ _ _ ((tkIt avC (lns avC).toNat avC.th.toNat (tkInit 0) (tkIt avC (lns avC).toNat avC.th.toNat (tkInit 0) av0 30).2 30).1) _ x_41) ?_)
       clear hS; rintro _ _ w ⟨rfl, rfl⟩ hS
       replace hS : K.Sat w0 [g1k, g1i, l1k, l_3, gl_10, m_12, fr] w := hS
       refine K.q [K.pa p_6] ?_
       refine K.l (K.OW.gcall hS [2] [0, 1, 3, 4, 5, 6] [K.pa p_6] (mClock_ok _ _ _ _ _ _ _ x_42 ) ?_)
       clear hS; rintro _ _ w ⟨rfl, rfl⟩ hS
       replace hS : K.Sat w0 [l1k, g1k, g1i, l_3, gl_10, m_12, fr] w := hS
       refine K.ye (((tkIt avC (lns avC).toNat avC.th.toNat (tkInit 0) (tkIt avC (lns avC).toNat avC.th.toNat (tkInit 0) av0 30).2 30).1).empty : Int) (((tkIt avC (lns avC).toNat avC.th.toNat (tkInit 0) (tkIt avC (lns avC).toNat avC.th.toNat (tkInit 0) av0 30).2 30).2).clock : Int) (by kernel_rfl) ?_
       refine K.q [.bool true, .bool true] (K.z (K.t (K.r ?_)))
       refine ⟨.inr rfl, rfl, (.bool true), K.res1 rfl rfl, [], ?_, hS.pick [6]⟩
       exact ⟨rfl, rfl⟩
end Go.Proofs.YtbfafebfkdbglaaGreat
