/- Layer 11: what the statements call; the page's example. -/
import Derived.Test.YtkmndplicmaahaaGreatFre
import Derived.Test.YtkmndplicmaahaaGreatKn
namespace Go.Proofs.YtkmndplicmaahaaGreat
open Go.RowKit
set_option linter.unusedVariables false
attribute [local irreducible] K.KW K.RW K.DW K.OW K.QR K.KC
theorem relook_good {c : Cfg} (hc : cfgOk c) {n : Nat} {S : ResS} {M : MemM} (hS : S.good) (hM : M.good) : (relook c n S M).1.good ∧ (relook c n S M).2.good := by
 unfold cfgOk at hc
 obtain ⟨h1, h2, h3, h4, h5⟩ := hS
 unfold relook
 split
 ·split
  ·exact ⟨⟨h1, (by decide : (0 : Int) ≤ 1 ∧ (1 : Int) ≤ 5 ∧ ¬ (1 : Int) = 4), h3, by show 0 ≤ S.next + 1 ∧ S.next + 1 ≤ 64; omega, h4⟩, (accL_good hM).1⟩
  split
  ·exact ⟨⟨h1, (by decide : (0 : Int) ≤ 5 ∧ (5 : Int) ≤ 5 ∧ ¬ (5 : Int) = 4), h3, by show 0 ≤ S.next + 1 ∧ S.next + 1 ≤ 64; omega, by show 0 ≤ S.next + 1 ∧ S.next + 1 ≤ 64; omega⟩, (accL_good hM).1⟩
  ·exact ⟨⟨h1, h2, h3, by show 0 ≤ S.next + 1 ∧ S.next + 1 ≤ 64; omega, h4⟩, (accL_good hM).1⟩
 ·exact ⟨⟨h1, h2, h3, h4, h5⟩, hM⟩
theorem accF_good' {M : MemM} {n nt : Nat} {th i : Int} (h : M.good) : (M.accF n nt th i).1.good := by
 show MemM.good (MemM.count (if decide _ = true then _ else M) _ _)
 split
 ·exact h
 ·exact h
theorem accE_good' {M : MemM} {nt : Nat} {th : Int} (h : M.good) : (M.accE nt th).1.good := by
 show MemM.good (MemM.count (if decide _ = true then _ else M) _ _)
 split
 ·have := fence_words (k := th.toNat) (D := M.dev) h.2
  exact ⟨h.1, this⟩
 ·exact h
theorem resStep_good {c : Cfg} (hc : cfgOk c) {n nt : Nat} {S : ResS} {M : MemM} (hS : S.good) (hM : M.good) : (resStep c n nt S M).1.good ∧ (resStep c n nt S M).2.good := by
 have hS0 := hS
 obtain ⟨h1, h2, h3, h4, h5⟩ := hS
 unfold resStep
 split
 ·exact ⟨hS0, hM⟩
 split
 ·exact relook_good hc hS0 hM
 split
 ·exact ⟨⟨h1, (by decide : (0 : Int) ≤ 2 ∧ (2 : Int) ≤ 5 ∧ ¬ (2 : Int) = 4), h3, h4, h5⟩, accS_good hM (entryI_w _ _)⟩
 ·refine ⟨⟨h1, ?_, h3, h4, h5⟩, ?_⟩
  ·show 0 ≤ (if S.pc = 2 then (3 : Int) else 5) ∧ (if S.pc = 2 then (3 : Int) else 5) ≤ 5 ∧ ¬ (if S.pc = 2 then (3 : Int) else 5) = 4
   split <;> decide
  ·unfold elast; split
   ·exact accF_good' hM
   ·exact accE_good' hM
theorem resInit {a b : Int} (ha : isInt a) (hb : isInt b) : ResS.good ⟨a, 0, b, 0, 0⟩ := ⟨ha, (by decide : (0 : Int) ≤ 0 ∧ (0 : Int) ≤ 5 ∧ ¬ (0 : Int) = 4), hb, (by decide : (0 : Int) ≤ 0 ∧ (0 : Int) ≤ 64), (by decide : (0 : Int) ≤ 0 ∧ (0 : Int) ≤ 64)⟩
theorem reDoneB_ok (w0 : World) (p b : Nat) (S : ResS) (gp : K.Cs) (hgp : gp = resPt p b S) : K.GC Tryz.prog w0 18 #[.pointer (some ⟨p, 0, none⟩)] [gp] (fun v post => v = .bool S.done ∧ post = [gp]) := by
 refine (reDone_ok w0 p b S gp hgp).mono ?_
 rintro v post ⟨rfl, ⟨rfl, h⟩ | ⟨rfl, h⟩⟩
 ·exact ⟨congrArg Value.bool (decide_eq_true h).symm, rfl⟩
 ·exact ⟨congrArg Value.bool (decide_eq_false h).symm, rfl⟩
def azC : Cfg := ⟨1, 1, 1, 1⟩
def az0 : MemM := groundM (lns azC).toNat azC.th.toNat (2 + azC.th + azC.sl).toNat []
def az1 := resStep azC (lns azC).toNat azC.th.toNat ⟨0, 0, 0, 0, 0⟩ az0
def az2 := resStep azC (lns azC).toNat azC.th.toNat az1.1 az1.2
def az3 := resStep azC (lns azC).toNat azC.th.toNat az2.1 az2.2
def az4 := resStep azC (lns azC).toNat azC.th.toNat az3.1 az3.2
def az5 := resStep azC (lns azC).toNat azC.th.toNat az4.1 az4.2
def az6 := resStep azC (lns azC).toNat azC.th.toNat az5.1 az5.2
def az7 := resStep azC (lns azC).toNat azC.th.toNat az6.1 az6.2
def az8 := resStep azC (lns azC).toNat azC.th.toNat az7.1 az7.2
def az9 := resStep azC (lns azC).toNat azC.th.toNat az8.1 az8.2
def az10 := resStep azC (lns azC).toNat azC.th.toNat ⟨0, 0, 0, 0, 0⟩ az9.2
def az11 := resStep azC (lns azC).toNat azC.th.toNat az10.1 az10.2
def az12 := resStep azC (lns azC).toNat azC.th.toNat az11.1 az11.2
def az13 := resStep azC (lns azC).toNat azC.th.toNat az12.1 az12.2
def az14 := resStep azC (lns azC).toNat azC.th.toNat az13.1 az13.2
def az15 := resStep azC (lns azC).toNat azC.th.toNat az14.1 az14.2
def az16 := resStep azC (lns azC).toNat azC.th.toNat az15.1 az15.2
def az17 := resStep azC (lns azC).toNat azC.th.toNat az16.1 az16.2
def az18 := resStep azC (lns azC).toNat azC.th.toNat az17.1 az17.2
set_option maxHeartbeats 4000000 in
set_option maxRecDepth 100000 in
theorem awake11_ok (w0 : World)  :
  K.GC Tryz.prog w0 6 #[] [] (fun v post => v = .bool true ∧ post = []) := by
 refine K.GC.mk (n := 69) Tryz.func6 rfl rfl [] rfl rfl ?_
 intro fr w hS
 replace hS : K.Sat w0 [fr] w := hS
 refine K.s (K.g (K.q [.bool false] (K.z (K.t (K.s (K.g ?_))))))
 refine K.a (K.QR.bd [(0, .int .i64 1), (1, .int .i64 1), (2, .int .i64 1), (3, .int .i64 1)] [.int .i64 1, .int .i64 1, .int .i64 1, .int .i64 1] rfl rfl (by kernel_rfl)) ?_
 refine K.a (K.QR.bd [(0, .agg #[.int .i64 1, .int .i64 1, .int .i64 1, .int .i64 1])] [.int .i64 1, .int .i64 1, .int .i64 1, .int .i64 1, .slice none 0 0] rfl rfl (by kernel_rfl)) ?_
 refine K.l (K.OW.gcall hS [51] [0] [.agg #[.int .i64 1, .int .i64 1, .int .i64 1, .int .i64 1, .slice none 0 0]] (layS_ok _ (⟨1, 1, 1, 1⟩ : Cfg) _ _ [] (fun j hj => absurd hj (by simp)) (⟨by unfold fewC cfgOk; decide, by decide⟩) _ (fun _ _ => K.RowE.zero _ _ _ _)) ?_)
 clear hS; rintro _ _ w ⟨b_1, p_2, q_3, r_4, u_5, _, _, gl_6, l_7, m_8, rfl, rfl, hl_9, x_10, y_11, rfl, rfl, hf_12, hp_13⟩ hS
 replace hS : K.Sat w0 [gl_6, l_7, m_8, fr] w := hS.of (by simp [K.pick, K.nth])
 replace x_10 : MemAt l_7 p_2 q_3 ((lns (⟨1, 1, 1, 1⟩ : Cfg)).toNat) ((⟨1, 1, 1, 1⟩ : Cfg).th.toNat) az0 := x_10
 have hM_14 : az0.good := ground_good (fun j hj => absurd hj (by simp))
 refine K.q [.tuple #[.pointer (some ⟨b_1, 0, none⟩), .pointer (some ⟨p_2, 0, none⟩), .pointer (some ⟨r_4, 0, none⟩), .bool true], .pointer (some ⟨b_1, 0, none⟩), .pointer (some ⟨p_2, 0, none⟩), .pointer (some ⟨r_4, 0, none⟩), .bool true, .pointer (some ⟨b_1, 0, none⟩), .pointer (some ⟨p_2, 0, none⟩), .pointer (some ⟨r_4, 0, none⟩), .bool true] (K.z (K.t (K.s (K.g (K.q [.pointer (some ⟨b_1, 0, none⟩)] ?_)))))
 refine K.l (K.OW.gcall hS [] [0, 1, 2, 3] [.pointer (some ⟨b_1, 0, none⟩), .int .i64 0, .int .i64 0] (newre_ok _ b_1 (0 : Int) (0 : Int)) ?_)
 clear hS; rintro _ _ w ⟨p_15, g_16, rfl, rfl, h_17⟩ hS
 replace hS : K.Sat w0 [g_16, gl_6, l_7, m_8, fr] w := hS
 have hS_18 : ResS.good ⟨(0 : Int), 0, (0 : Int), 0, 0⟩ := resInit (by omega) (by omega)
 refine K.q [.pointer (some ⟨b_1, 0, none⟩)] ?_
 refine K.l (K.OW.gcall hS [] [0, 1, 2, 3, 4] [.pointer (some ⟨b_1, 0, none⟩), .int .i64 0, .int .i64 0] (newre_ok _ b_1 (0 : Int) (0 : Int)) ?_)
 clear hS; rintro _ _ w ⟨p_19, g_20, rfl, rfl, h_21⟩ hS
 replace hS : K.Sat w0 [g_20, g_16, gl_6, l_7, m_8, fr] w := hS
 have hS_22 : ResS.good ⟨(0 : Int), 0, (0 : Int), 0, 0⟩ := resInit (by omega) (by omega)
 refine K.q [.pointer (some ⟨p_15, 0, none⟩), .pointer (some ⟨p_19, 0, none⟩)] (K.z (K.t (K.s (K.s (K.g (K.q [.int .i64 0] (K.z (K.t ?_))))))))
 refine K.KW.block ?_
 refine K.KW.unr 9 ?_
 refine K.Unr.succ ?_
 refine K.s (K.s (K.g (K.q [.int .i64 0, .bool true] (K.z (K.t (K.h (K.k (K.t (K.s ?_)))))))))
 refine K.KW.block ?_
 refine K.g (K.q [.pointer (some ⟨p_15, 0, none⟩), .pointer (some ⟨p_2, 0, none⟩)] ?_)
 refine K.l (K.OW.gcall hS [1, 2, 3] [0, 4, 5] [.pointer (some ⟨p_15, 0, none⟩), .pointer (some ⟨p_2, 0, none⟩)] (reStep_ok _ _ _ _ _ _ _ (⟨1, 1, 1, 1⟩ : Cfg) (by first | assumption | (unfold cfgOk; decide)) (⟨(0 : Int), 0, (0 : Int), 0, 0⟩ : ResS) az0 _ _ _ h_17 hl_9 x_10 (by assumption) (by assumption)) ?_)
 clear hS; rintro _ _ w ⟨g_23, l_24, rfl, rfl, h_25, x_26⟩ hS
 replace hS : K.Sat w0 [g_23, gl_6, l_24, g_20, m_8, fr] w := hS
 obtain ⟨hS_27, hM_28⟩ := (resStep_good (by first | assumption | (unfold cfgOk; decide)) (by assumption) (by assumption) : (resStep (⟨1, 1, 1, 1⟩ : Cfg) ((lns (⟨1, 1, 1, 1⟩ : Cfg)).toNat) ((⟨1, 1, 1, 1⟩ : Cfg).th.toNat) (⟨(0 : Int), 0, (0 : Int), 0, 0⟩ : ResS) az0).1.good ∧ (resStep (⟨1, 1, 1, 1⟩ : Cfg) ((lns (⟨1, 1, 1, 1⟩ : Cfg)).toNat) ((⟨1, 1, 1, 1⟩ : Cfg).th.toNat) (⟨(0 : Int), 0, (0 : Int), 0, 0⟩ : ResS) az0).2.good)
 replace h_25 : g_23 = resPt p_15 b_1 az1.1 := h_25
 replace x_26 : MemAt l_24 p_2 q_3 ((lns (⟨1, 1, 1, 1⟩ : Cfg)).toNat) ((⟨1, 1, 1, 1⟩ : Cfg).th.toNat) az1.2 := x_26
 have hS_29 : az1.1.good := hS_27
 have hM_30 : az1.2.good := hM_28
 refine K.z ?_
 refine K.blk_normal ?_
 refine K.t (K.g (K.q [.int .i64 0, .int .i64 1, .int .i64 1] (K.z (K.t ?_))))
 refine K.Unr.succ ?_
 refine K.s (K.s (K.g (K.q [.int .i64 1, .bool true] (K.z (K.t (K.h (K.k (K.t (K.s ?_)))))))))
 refine K.KW.block ?_
 refine K.g (K.q [.pointer (some ⟨p_15, 0, none⟩), .pointer (some ⟨p_2, 0, none⟩)] ?_)
 refine K.l (K.OW.gcall hS [0, 1, 2] [3, 4, 5] [.pointer (some ⟨p_15, 0, none⟩), .pointer (some ⟨p_2, 0, none⟩)] (reStep_ok _ _ _ _ _ _ _ (⟨1, 1, 1, 1⟩ : Cfg) (by first | assumption | (unfold cfgOk; decide)) az1.1 az1.2 _ _ _ h_25 hl_9 x_26 (by assumption) (by assumption)) ?_)
 clear hS; rintro _ _ w ⟨g_31, l_32, rfl, rfl, h_33, x_34⟩ hS
 replace hS : K.Sat w0 [g_31, gl_6, l_32, g_20, m_8, fr] w := hS
 obtain ⟨hS_35, hM_36⟩ := (resStep_good (by first | assumption | (unfold cfgOk; decide)) (by assumption) (by assumption) : (resStep (⟨1, 1, 1, 1⟩ : Cfg) ((lns (⟨1, 1, 1, 1⟩ : Cfg)).toNat) ((⟨1, 1, 1, 1⟩ : Cfg).th.toNat) az1.1 az1.2).1.good ∧ (resStep (⟨1, 1, 1, 1⟩ : Cfg) ((lns (⟨1, 1, 1, 1⟩ : Cfg)).toNat) ((⟨1, 1, 1, 1⟩ : Cfg).th.toNat) az1.1 az1.2).2.good)
 replace h_33 : g_31 = resPt p_15 b_1 az2.1 := h_33
 replace x_34 : MemAt l_32 p_2 q_3 ((lns (⟨1, 1, 1, 1⟩ : Cfg)).toNat) ((⟨1, 1, 1, 1⟩ : Cfg).th.toNat) az2.2 := x_34
 have hS_37 : az2.1.good := hS_35
 have hM_38 : az2.2.good := hM_36
 refine K.z ?_
 refine K.blk_normal ?_
 refine K.t (K.g (K.q [.int .i64 1, .int .i64 2, .int .i64 2] (K.z (K.t ?_))))
 refine K.Unr.succ ?_
 refine K.s (K.s (K.g (K.q [.int .i64 2, .bool true] (K.z (K.t (K.h (K.k (K.t (K.s ?_)))))))))
 refine K.KW.block ?_
 refine K.g (K.q [.pointer (some ⟨p_15, 0, none⟩), .pointer (some ⟨p_2, 0, none⟩)] ?_)
 refine K.l (K.OW.gcall hS [0, 1, 2] [3, 4, 5] [.pointer (some ⟨p_15, 0, none⟩), .pointer (some ⟨p_2, 0, none⟩)] (reStep_ok _ _ _ _ _ _ _ (⟨1, 1, 1, 1⟩ : Cfg) (by first | assumption | (unfold cfgOk; decide)) az2.1 az2.2 _ _ _ h_33 hl_9 x_34 (by assumption) (by assumption)) ?_)
 clear hS; rintro _ _ w ⟨g_39, l_40, rfl, rfl, h_41, x_42⟩ hS
 replace hS : K.Sat w0 [g_39, gl_6, l_40, g_20, m_8, fr] w := hS
 obtain ⟨hS_43, hM_44⟩ := (resStep_good (by first | assumption | (unfold cfgOk; decide)) (by assumption) (by assumption) : (resStep (⟨1, 1, 1, 1⟩ : Cfg) ((lns (⟨1, 1, 1, 1⟩ : Cfg)).toNat) ((⟨1, 1, 1, 1⟩ : Cfg).th.toNat) az2.1 az2.2).1.good ∧ (resStep (⟨1, 1, 1, 1⟩ : Cfg) ((lns (⟨1, 1, 1, 1⟩ : Cfg)).toNat) ((⟨1, 1, 1, 1⟩ : Cfg).th.toNat) az2.1 az2.2).2.good)
 replace h_41 : g_39 = resPt p_15 b_1 az3.1 := h_41
 replace x_42 : MemAt l_40 p_2 q_3 ((lns (⟨1, 1, 1, 1⟩ : Cfg)).toNat) ((⟨1, 1, 1, 1⟩ : Cfg).th.toNat) az3.2 := x_42
 have hS_45 : az3.1.good := hS_43
 have hM_46 : az3.2.good := hM_44
 refine K.z ?_
 refine K.blk_normal ?_
 refine K.t (K.g (K.q [.int .i64 2, .int .i64 3, .int .i64 3] (K.z (K.t ?_))))
 refine K.Unr.succ ?_
 refine K.s (K.s (K.g (K.q [.int .i64 3, .bool true] (K.z (K.t (K.h (K.k (K.t (K.s ?_)))))))))
 refine K.KW.block ?_
 refine K.g (K.q [.pointer (some ⟨p_15, 0, none⟩), .pointer (some ⟨p_2, 0, none⟩)] ?_)
 refine K.l (K.OW.gcall hS [0, 1, 2] [3, 4, 5] [.pointer (some ⟨p_15, 0, none⟩), .pointer (some ⟨p_2, 0, none⟩)] (reStep_ok _ _ _ _ _ _ _ (⟨1, 1, 1, 1⟩ : Cfg) (by first | assumption | (unfold cfgOk; decide)) az3.1 az3.2 _ _ _ h_41 hl_9 x_42 (by assumption) (by assumption)) ?_)
 clear hS; rintro _ _ w ⟨g_47, l_48, rfl, rfl, h_49, x_50⟩ hS
 replace hS : K.Sat w0 [g_47, gl_6, l_48, g_20, m_8, fr] w := hS
 obtain ⟨hS_51, hM_52⟩ := (resStep_good (by first | assumption | (unfold cfgOk; decide)) (by assumption) (by assumption) : (resStep (⟨1, 1, 1, 1⟩ : Cfg) ((lns (⟨1, 1, 1, 1⟩ : Cfg)).toNat) ((⟨1, 1, 1, 1⟩ : Cfg).th.toNat) az3.1 az3.2).1.good ∧ (resStep (⟨1, 1, 1, 1⟩ : Cfg) ((lns (⟨1, 1, 1, 1⟩ : Cfg)).toNat) ((⟨1, 1, 1, 1⟩ : Cfg).th.toNat) az3.1 az3.2).2.good)
 replace h_49 : g_47 = resPt p_15 b_1 az4.1 := h_49
 replace x_50 : MemAt l_48 p_2 q_3 ((lns (⟨1, 1, 1, 1⟩ : Cfg)).toNat) ((⟨1, 1, 1, 1⟩ : Cfg).th.toNat) az4.2 := x_50
 have hS_53 : az4.1.good := hS_51
 have hM_54 : az4.2.good := hM_52
 refine K.z ?_
 refine K.blk_normal ?_
 refine K.t (K.g (K.q [.int .i64 3, .int .i64 4, .int .i64 4] (K.z (K.t ?_))))
 refine K.Unr.succ ?_
 refine K.s (K.s (K.g (K.q [.int .i64 4, .bool true] (K.z (K.t (K.h (K.k (K.t (K.s ?_)))))))))
 refine K.KW.block ?_
 refine K.g (K.q [.pointer (some ⟨p_15, 0, none⟩), .pointer (some ⟨p_2, 0, none⟩)] ?_)
 refine K.l (K.OW.gcall hS [0, 1, 2] [3, 4, 5] [.pointer (some ⟨p_15, 0, none⟩), .pointer (some ⟨p_2, 0, none⟩)] (reStep_ok _ _ _ _ _ _ _ (⟨1, 1, 1, 1⟩ : Cfg) (by first | assumption | (unfold cfgOk; decide)) az4.1 az4.2 _ _ _ h_49 hl_9 x_50 (by assumption) (by assumption)) ?_)
 clear hS; rintro _ _ w ⟨g_55, l_56, rfl, rfl, h_57, x_58⟩ hS
 replace hS : K.Sat w0 [g_55, gl_6, l_56, g_20, m_8, fr] w := hS
 obtain ⟨hS_59, hM_60⟩ := (resStep_good (by first | assumption | (unfold cfgOk; decide)) (by assumption) (by assumption) : (resStep (⟨1, 1, 1, 1⟩ : Cfg) ((lns (⟨1, 1, 1, 1⟩ : Cfg)).toNat) ((⟨1, 1, 1, 1⟩ : Cfg).th.toNat) az4.1 az4.2).1.good ∧ (resStep (⟨1, 1, 1, 1⟩ : Cfg) ((lns (⟨1, 1, 1, 1⟩ : Cfg)).toNat) ((⟨1, 1, 1, 1⟩ : Cfg).th.toNat) az4.1 az4.2).2.good)
 replace h_57 : g_55 = resPt p_15 b_1 az5.1 := h_57
 replace x_58 : MemAt l_56 p_2 q_3 ((lns (⟨1, 1, 1, 1⟩ : Cfg)).toNat) ((⟨1, 1, 1, 1⟩ : Cfg).th.toNat) az5.2 := x_58
 have hS_61 : az5.1.good := hS_59
 have hM_62 : az5.2.good := hM_60
 refine K.z ?_
 refine K.blk_normal ?_
 refine K.t (K.g (K.q [.int .i64 4, .int .i64 5, .int .i64 5] (K.z (K.t ?_))))
 refine K.Unr.succ ?_
 refine K.s (K.s (K.g (K.q [.int .i64 5, .bool true] (K.z (K.t (K.h (K.k (K.t (K.s ?_)))))))))
 refine K.KW.block ?_
 refine K.g (K.q [.pointer (some ⟨p_15, 0, none⟩), .pointer (some ⟨p_2, 0, none⟩)] ?_)
 refine K.l (K.OW.gcall hS [0, 1, 2] [3, 4, 5] [.pointer (some ⟨p_15, 0, none⟩), .pointer (some ⟨p_2, 0, none⟩)] (reStep_ok _ _ _ _ _ _ _ (⟨1, 1, 1, 1⟩ : Cfg) (by first | assumption | (unfold cfgOk; decide)) az5.1 az5.2 _ _ _ h_57 hl_9 x_58 (by assumption) (by assumption)) ?_)
 clear hS; rintro _ _ w ⟨g_63, l_64, rfl, rfl, h_65, x_66⟩ hS
 replace hS : K.Sat w0 [g_63, gl_6, l_64, g_20, m_8, fr] w := hS
 obtain ⟨hS_67, hM_68⟩ := (resStep_good (by first | assumption | (unfold cfgOk; decide)) (by assumption) (by assumption) : (resStep (⟨1, 1, 1, 1⟩ : Cfg) ((lns (⟨1, 1, 1, 1⟩ : Cfg)).toNat) ((⟨1, 1, 1, 1⟩ : Cfg).th.toNat) az5.1 az5.2).1.good ∧ (resStep (⟨1, 1, 1, 1⟩ : Cfg) ((lns (⟨1, 1, 1, 1⟩ : Cfg)).toNat) ((⟨1, 1, 1, 1⟩ : Cfg).th.toNat) az5.1 az5.2).2.good)
 replace h_65 : g_63 = resPt p_15 b_1 az6.1 := h_65
 replace x_66 : MemAt l_64 p_2 q_3 ((lns (⟨1, 1, 1, 1⟩ : Cfg)).toNat) ((⟨1, 1, 1, 1⟩ : Cfg).th.toNat) az6.2 := x_66
 have hS_69 : az6.1.good := hS_67
 have hM_70 : az6.2.good := hM_68
 refine K.z ?_
 refine K.blk_normal ?_
 refine K.t (K.g (K.q [.int .i64 5, .int .i64 6, .int .i64 6] (K.z (K.t ?_))))
 refine K.Unr.succ ?_
 refine K.s (K.s (K.g (K.q [.int .i64 6, .bool true] (K.z (K.t (K.h (K.k (K.t (K.s ?_)))))))))
 refine K.KW.block ?_
 refine K.g (K.q [.pointer (some ⟨p_15, 0, none⟩), .pointer (some ⟨p_2, 0, none⟩)] ?_)
 refine K.l (K.OW.gcall hS [0, 1, 2] [3, 4, 5] [.pointer (some ⟨p_15, 0, none⟩), .pointer (some ⟨p_2, 0, none⟩)] (reStep_ok _ _ _ _ _ _ _ (⟨1, 1, 1, 1⟩ : Cfg) (by first | assumption | (unfold cfgOk; decide)) az6.1 az6.2 _ _ _ h_65 hl_9 x_66 (by assumption) (by assumption)) ?_)
 clear hS; rintro _ _ w ⟨g_71, l_72, rfl, rfl, h_73, x_74⟩ hS
 replace hS : K.Sat w0 [g_71, gl_6, l_72, g_20, m_8, fr] w := hS
 obtain ⟨hS_75, hM_76⟩ := (resStep_good (by first | assumption | (unfold cfgOk; decide)) (by assumption) (by assumption) : (resStep (⟨1, 1, 1, 1⟩ : Cfg) ((lns (⟨1, 1, 1, 1⟩ : Cfg)).toNat) ((⟨1, 1, 1, 1⟩ : Cfg).th.toNat) az6.1 az6.2).1.good ∧ (resStep (⟨1, 1, 1, 1⟩ : Cfg) ((lns (⟨1, 1, 1, 1⟩ : Cfg)).toNat) ((⟨1, 1, 1, 1⟩ : Cfg).th.toNat) az6.1 az6.2).2.good)
 replace h_73 : g_71 = resPt p_15 b_1 az7.1 := h_73
 replace x_74 : MemAt l_72 p_2 q_3 ((lns (⟨1, 1, 1, 1⟩ : Cfg)).toNat) ((⟨1, 1, 1, 1⟩ : Cfg).th.toNat) az7.2 := x_74
 have hS_77 : az7.1.good := hS_75
 have hM_78 : az7.2.good := hM_76
 refine K.z ?_
 refine K.blk_normal ?_
 refine K.t (K.g (K.q [.int .i64 6, .int .i64 7, .int .i64 7] (K.z (K.t ?_))))
 refine K.Unr.succ ?_
 refine K.s (K.s (K.g (K.q [.int .i64 7, .bool true] (K.z (K.t (K.h (K.k (K.t (K.s ?_)))))))))
 refine K.KW.block ?_
 refine K.g (K.q [.pointer (some ⟨p_15, 0, none⟩), .pointer (some ⟨p_2, 0, none⟩)] ?_)
 refine K.l (K.OW.gcall hS [0, 1, 2] [3, 4, 5] [.pointer (some ⟨p_15, 0, none⟩), .pointer (some ⟨p_2, 0, none⟩)] (reStep_ok _ _ _ _ _ _ _ (⟨1, 1, 1, 1⟩ : Cfg) (by first | assumption | (unfold cfgOk; decide)) az7.1 az7.2 _ _ _ h_73 hl_9 x_74 (by assumption) (by assumption)) ?_)
 clear hS; rintro _ _ w ⟨g_79, l_80, rfl, rfl, h_81, x_82⟩ hS
 replace hS : K.Sat w0 [g_79, gl_6, l_80, g_20, m_8, fr] w := hS
 obtain ⟨hS_83, hM_84⟩ := (resStep_good (by first | assumption | (unfold cfgOk; decide)) (by assumption) (by assumption) : (resStep (⟨1, 1, 1, 1⟩ : Cfg) ((lns (⟨1, 1, 1, 1⟩ : Cfg)).toNat) ((⟨1, 1, 1, 1⟩ : Cfg).th.toNat) az7.1 az7.2).1.good ∧ (resStep (⟨1, 1, 1, 1⟩ : Cfg) ((lns (⟨1, 1, 1, 1⟩ : Cfg)).toNat) ((⟨1, 1, 1, 1⟩ : Cfg).th.toNat) az7.1 az7.2).2.good)
 replace h_81 : g_79 = resPt p_15 b_1 az8.1 := h_81
 replace x_82 : MemAt l_80 p_2 q_3 ((lns (⟨1, 1, 1, 1⟩ : Cfg)).toNat) ((⟨1, 1, 1, 1⟩ : Cfg).th.toNat) az8.2 := x_82
 have hS_85 : az8.1.good := hS_83
 have hM_86 : az8.2.good := hM_84
 refine K.z ?_
 refine K.blk_normal ?_
 refine K.t (K.g (K.q [.int .i64 7, .int .i64 8, .int .i64 8] (K.z (K.t ?_))))
 refine K.Unr.succ ?_
 refine K.s (K.s (K.g (K.q [.int .i64 8, .bool true] (K.z (K.t (K.h (K.k (K.t (K.s ?_)))))))))
 refine K.KW.block ?_
 refine K.g (K.q [.pointer (some ⟨p_15, 0, none⟩), .pointer (some ⟨p_2, 0, none⟩)] ?_)
 refine K.l (K.OW.gcall hS [0, 1, 2] [3, 4, 5] [.pointer (some ⟨p_15, 0, none⟩), .pointer (some ⟨p_2, 0, none⟩)] (reStep_ok _ _ _ _ _ _ _ (⟨1, 1, 1, 1⟩ : Cfg) (by first | assumption | (unfold cfgOk; decide)) az8.1 az8.2 _ _ _ h_81 hl_9 x_82 (by assumption) (by assumption)) ?_)
 clear hS; rintro _ _ w ⟨g_87, l_88, rfl, rfl, h_89, x_90⟩ hS
 replace hS : K.Sat w0 [g_87, gl_6, l_88, g_20, m_8, fr] w := hS
 obtain ⟨hS_91, hM_92⟩ := (resStep_good (by first | assumption | (unfold cfgOk; decide)) (by assumption) (by assumption) : (resStep (⟨1, 1, 1, 1⟩ : Cfg) ((lns (⟨1, 1, 1, 1⟩ : Cfg)).toNat) ((⟨1, 1, 1, 1⟩ : Cfg).th.toNat) az8.1 az8.2).1.good ∧ (resStep (⟨1, 1, 1, 1⟩ : Cfg) ((lns (⟨1, 1, 1, 1⟩ : Cfg)).toNat) ((⟨1, 1, 1, 1⟩ : Cfg).th.toNat) az8.1 az8.2).2.good)
 replace h_89 : g_87 = resPt p_15 b_1 az9.1 := h_89
 replace x_90 : MemAt l_88 p_2 q_3 ((lns (⟨1, 1, 1, 1⟩ : Cfg)).toNat) ((⟨1, 1, 1, 1⟩ : Cfg).th.toNat) az9.2 := x_90
 have hS_93 : az9.1.good := hS_91
 have hM_94 : az9.2.good := hM_92
 refine K.z ?_
 refine K.blk_normal ?_
 refine K.t (K.g (K.q [.int .i64 8, .int .i64 9, .int .i64 9] (K.z (K.t ?_))))
 refine K.Unr.zero ?_
 refine K.s (K.s (K.g (K.q [.int .i64 9, .bool false] (K.z (K.t (K.f ?_))))))
 refine K.KW.exit ?_
 refine K.thn_exit ?_
 refine K.thn_exit ?_
 refine K.blk_hit ?_
 refine K.t (K.s (K.s (K.g (K.q [.int .i64 0] (K.z (K.t ?_))))))
 refine K.KW.block ?_
 refine K.KW.unr 9 ?_
 refine K.Unr.succ ?_
 refine K.s (K.s (K.g (K.q [.int .i64 0, .bool true] (K.z (K.t (K.h (K.k (K.t (K.s ?_)))))))))
 refine K.KW.block ?_
 refine K.g (K.q [.pointer (some ⟨p_19, 0, none⟩), .pointer (some ⟨p_2, 0, none⟩)] ?_)
 refine K.l (K.OW.gcall hS [3, 1, 2] [0, 4, 5] [.pointer (some ⟨p_19, 0, none⟩), .pointer (some ⟨p_2, 0, none⟩)] (reStep_ok _ _ _ _ _ _ _ (⟨1, 1, 1, 1⟩ : Cfg) (by first | assumption | (unfold cfgOk; decide)) (⟨(0 : Int), 0, (0 : Int), 0, 0⟩ : ResS) az9.2 _ _ _ h_21 hl_9 x_90 (by assumption) (by assumption)) ?_)
 clear hS; rintro _ _ w ⟨g_95, l_96, rfl, rfl, h_97, x_98⟩ hS
 replace hS : K.Sat w0 [g_95, gl_6, l_96, g_87, m_8, fr] w := hS
 obtain ⟨hS_99, hM_100⟩ := (resStep_good (by first | assumption | (unfold cfgOk; decide)) (by assumption) (by assumption) : (resStep (⟨1, 1, 1, 1⟩ : Cfg) ((lns (⟨1, 1, 1, 1⟩ : Cfg)).toNat) ((⟨1, 1, 1, 1⟩ : Cfg).th.toNat) (⟨(0 : Int), 0, (0 : Int), 0, 0⟩ : ResS) az9.2).1.good ∧ (resStep (⟨1, 1, 1, 1⟩ : Cfg) ((lns (⟨1, 1, 1, 1⟩ : Cfg)).toNat) ((⟨1, 1, 1, 1⟩ : Cfg).th.toNat) (⟨(0 : Int), 0, (0 : Int), 0, 0⟩ : ResS) az9.2).2.good)
 replace h_97 : g_95 = resPt p_19 b_1 az10.1 := h_97
 replace x_98 : MemAt l_96 p_2 q_3 ((lns (⟨1, 1, 1, 1⟩ : Cfg)).toNat) ((⟨1, 1, 1, 1⟩ : Cfg).th.toNat) az10.2 := x_98
 have hS_101 : az10.1.good := hS_99
 have hM_102 : az10.2.good := hM_100
 refine K.z ?_
 refine K.blk_normal ?_
 refine K.t (K.g (K.q [.int .i64 0, .int .i64 1, .int .i64 1] (K.z (K.t ?_))))
 refine K.Unr.succ ?_
 refine K.s (K.s (K.g (K.q [.int .i64 1, .bool true] (K.z (K.t (K.h (K.k (K.t (K.s ?_)))))))))
 refine K.KW.block ?_
 refine K.g (K.q [.pointer (some ⟨p_19, 0, none⟩), .pointer (some ⟨p_2, 0, none⟩)] ?_)
 refine K.l (K.OW.gcall hS [0, 1, 2] [3, 4, 5] [.pointer (some ⟨p_19, 0, none⟩), .pointer (some ⟨p_2, 0, none⟩)] (reStep_ok _ _ _ _ _ _ _ (⟨1, 1, 1, 1⟩ : Cfg) (by first | assumption | (unfold cfgOk; decide)) az10.1 az10.2 _ _ _ h_97 hl_9 x_98 (by assumption) (by assumption)) ?_)
 clear hS; rintro _ _ w ⟨g_103, l_104, rfl, rfl, h_105, x_106⟩ hS
 replace hS : K.Sat w0 [g_103, gl_6, l_104, g_87, m_8, fr] w := hS
 obtain ⟨hS_107, hM_108⟩ := (resStep_good (by first | assumption | (unfold cfgOk; decide)) (by assumption) (by assumption) : (resStep (⟨1, 1, 1, 1⟩ : Cfg) ((lns (⟨1, 1, 1, 1⟩ : Cfg)).toNat) ((⟨1, 1, 1, 1⟩ : Cfg).th.toNat) az10.1 az10.2).1.good ∧ (resStep (⟨1, 1, 1, 1⟩ : Cfg) ((lns (⟨1, 1, 1, 1⟩ : Cfg)).toNat) ((⟨1, 1, 1, 1⟩ : Cfg).th.toNat) az10.1 az10.2).2.good)
 replace h_105 : g_103 = resPt p_19 b_1 az11.1 := h_105
 replace x_106 : MemAt l_104 p_2 q_3 ((lns (⟨1, 1, 1, 1⟩ : Cfg)).toNat) ((⟨1, 1, 1, 1⟩ : Cfg).th.toNat) az11.2 := x_106
 have hS_109 : az11.1.good := hS_107
 have hM_110 : az11.2.good := hM_108
 refine K.z ?_
 refine K.blk_normal ?_
 refine K.t (K.g (K.q [.int .i64 1, .int .i64 2, .int .i64 2] (K.z (K.t ?_))))
 refine K.Unr.succ ?_
 refine K.s (K.s (K.g (K.q [.int .i64 2, .bool true] (K.z (K.t (K.h (K.k (K.t (K.s ?_)))))))))
 refine K.KW.block ?_
 refine K.g (K.q [.pointer (some ⟨p_19, 0, none⟩), .pointer (some ⟨p_2, 0, none⟩)] ?_)
 refine K.l (K.OW.gcall hS [0, 1, 2] [3, 4, 5] [.pointer (some ⟨p_19, 0, none⟩), .pointer (some ⟨p_2, 0, none⟩)] (reStep_ok _ _ _ _ _ _ _ (⟨1, 1, 1, 1⟩ : Cfg) (by first | assumption | (unfold cfgOk; decide)) az11.1 az11.2 _ _ _ h_105 hl_9 x_106 (by assumption) (by assumption)) ?_)
 clear hS; rintro _ _ w ⟨g_111, l_112, rfl, rfl, h_113, x_114⟩ hS
 replace hS : K.Sat w0 [g_111, gl_6, l_112, g_87, m_8, fr] w := hS
 obtain ⟨hS_115, hM_116⟩ := (resStep_good (by first | assumption | (unfold cfgOk; decide)) (by assumption) (by assumption) : (resStep (⟨1, 1, 1, 1⟩ : Cfg) ((lns (⟨1, 1, 1, 1⟩ : Cfg)).toNat) ((⟨1, 1, 1, 1⟩ : Cfg).th.toNat) az11.1 az11.2).1.good ∧ (resStep (⟨1, 1, 1, 1⟩ : Cfg) ((lns (⟨1, 1, 1, 1⟩ : Cfg)).toNat) ((⟨1, 1, 1, 1⟩ : Cfg).th.toNat) az11.1 az11.2).2.good)
 replace h_113 : g_111 = resPt p_19 b_1 az12.1 := h_113
 replace x_114 : MemAt l_112 p_2 q_3 ((lns (⟨1, 1, 1, 1⟩ : Cfg)).toNat) ((⟨1, 1, 1, 1⟩ : Cfg).th.toNat) az12.2 := x_114
 have hS_117 : az12.1.good := hS_115
 have hM_118 : az12.2.good := hM_116
 refine K.z ?_
 refine K.blk_normal ?_
 refine K.t (K.g (K.q [.int .i64 2, .int .i64 3, .int .i64 3] (K.z (K.t ?_))))
 refine K.Unr.succ ?_
 refine K.s (K.s (K.g (K.q [.int .i64 3, .bool true] (K.z (K.t (K.h (K.k (K.t (K.s ?_)))))))))
 refine K.KW.block ?_
 refine K.g (K.q [.pointer (some ⟨p_19, 0, none⟩), .pointer (some ⟨p_2, 0, none⟩)] ?_)
 refine K.l (K.OW.gcall hS [0, 1, 2] [3, 4, 5] [.pointer (some ⟨p_19, 0, none⟩), .pointer (some ⟨p_2, 0, none⟩)] (reStep_ok _ _ _ _ _ _ _ (⟨1, 1, 1, 1⟩ : Cfg) (by first | assumption | (unfold cfgOk; decide)) az12.1 az12.2 _ _ _ h_113 hl_9 x_114 (by assumption) (by assumption)) ?_)
 clear hS; rintro _ _ w ⟨g_119, l_120, rfl, rfl, h_121, x_122⟩ hS
 replace hS : K.Sat w0 [g_119, gl_6, l_120, g_87, m_8, fr] w := hS
 obtain ⟨hS_123, hM_124⟩ := (resStep_good (by first | assumption | (unfold cfgOk; decide)) (by assumption) (by assumption) : (resStep (⟨1, 1, 1, 1⟩ : Cfg) ((lns (⟨1, 1, 1, 1⟩ : Cfg)).toNat) ((⟨1, 1, 1, 1⟩ : Cfg).th.toNat) az12.1 az12.2).1.good ∧ (resStep (⟨1, 1, 1, 1⟩ : Cfg) ((lns (⟨1, 1, 1, 1⟩ : Cfg)).toNat) ((⟨1, 1, 1, 1⟩ : Cfg).th.toNat) az12.1 az12.2).2.good)
 replace h_121 : g_119 = resPt p_19 b_1 az13.1 := h_121
 replace x_122 : MemAt l_120 p_2 q_3 ((lns (⟨1, 1, 1, 1⟩ : Cfg)).toNat) ((⟨1, 1, 1, 1⟩ : Cfg).th.toNat) az13.2 := x_122
 have hS_125 : az13.1.good := hS_123
 have hM_126 : az13.2.good := hM_124
 refine K.z ?_
 refine K.blk_normal ?_
 refine K.t (K.g (K.q [.int .i64 3, .int .i64 4, .int .i64 4] (K.z (K.t ?_))))
 refine K.Unr.succ ?_
 refine K.s (K.s (K.g (K.q [.int .i64 4, .bool true] (K.z (K.t (K.h (K.k (K.t (K.s ?_)))))))))
 refine K.KW.block ?_
 refine K.g (K.q [.pointer (some ⟨p_19, 0, none⟩), .pointer (some ⟨p_2, 0, none⟩)] ?_)
 refine K.l (K.OW.gcall hS [0, 1, 2] [3, 4, 5] [.pointer (some ⟨p_19, 0, none⟩), .pointer (some ⟨p_2, 0, none⟩)] (reStep_ok _ _ _ _ _ _ _ (⟨1, 1, 1, 1⟩ : Cfg) (by first | assumption | (unfold cfgOk; decide)) az13.1 az13.2 _ _ _ h_121 hl_9 x_122 (by assumption) (by assumption)) ?_)
 clear hS; rintro _ _ w ⟨g_127, l_128, rfl, rfl, h_129, x_130⟩ hS
 replace hS : K.Sat w0 [g_127, gl_6, l_128, g_87, m_8, fr] w := hS
 obtain ⟨hS_131, hM_132⟩ := (resStep_good (by first | assumption | (unfold cfgOk; decide)) (by assumption) (by assumption) : (resStep (⟨1, 1, 1, 1⟩ : Cfg) ((lns (⟨1, 1, 1, 1⟩ : Cfg)).toNat) ((⟨1, 1, 1, 1⟩ : Cfg).th.toNat) az13.1 az13.2).1.good ∧ (resStep (⟨1, 1, 1, 1⟩ : Cfg) ((lns (⟨1, 1, 1, 1⟩ : Cfg)).toNat) ((⟨1, 1, 1, 1⟩ : Cfg).th.toNat) az13.1 az13.2).2.good)
 replace h_129 : g_127 = resPt p_19 b_1 az14.1 := h_129
 replace x_130 : MemAt l_128 p_2 q_3 ((lns (⟨1, 1, 1, 1⟩ : Cfg)).toNat) ((⟨1, 1, 1, 1⟩ : Cfg).th.toNat) az14.2 := x_130
 have hS_133 : az14.1.good := hS_131
 have hM_134 : az14.2.good := hM_132
 refine K.z ?_
 refine K.blk_normal ?_
 refine K.t (K.g (K.q [.int .i64 4, .int .i64 5, .int .i64 5] (K.z (K.t ?_))))
 refine K.Unr.succ ?_
 refine K.s (K.s (K.g (K.q [.int .i64 5, .bool true] (K.z (K.t (K.h (K.k (K.t (K.s ?_)))))))))
 refine K.KW.block ?_
 refine K.g (K.q [.pointer (some ⟨p_19, 0, none⟩), .pointer (some ⟨p_2, 0, none⟩)] ?_)
 refine K.l (K.OW.gcall hS [0, 1, 2] [3, 4, 5] [.pointer (some ⟨p_19, 0, none⟩), .pointer (some ⟨p_2, 0, none⟩)] (reStep_ok _ _ _ _ _ _ _ (⟨1, 1, 1, 1⟩ : Cfg) (by first | assumption | (unfold cfgOk; decide)) az14.1 az14.2 _ _ _ h_129 hl_9 x_130 (by assumption) (by assumption)) ?_)
 clear hS; rintro _ _ w ⟨g_135, l_136, rfl, rfl, h_137, x_138⟩ hS
 replace hS : K.Sat w0 [g_135, gl_6, l_136, g_87, m_8, fr] w := hS
 obtain ⟨hS_139, hM_140⟩ := (resStep_good (by first | assumption | (unfold cfgOk; decide)) (by assumption) (by assumption) : (resStep (⟨1, 1, 1, 1⟩ : Cfg) ((lns (⟨1, 1, 1, 1⟩ : Cfg)).toNat) ((⟨1, 1, 1, 1⟩ : Cfg).th.toNat) az14.1 az14.2).1.good ∧ (resStep (⟨1, 1, 1, 1⟩ : Cfg) ((lns (⟨1, 1, 1, 1⟩ : Cfg)).toNat) ((⟨1, 1, 1, 1⟩ : Cfg).th.toNat) az14.1 az14.2).2.good)
 replace h_137 : g_135 = resPt p_19 b_1 az15.1 := h_137
 replace x_138 : MemAt l_136 p_2 q_3 ((lns (⟨1, 1, 1, 1⟩ : Cfg)).toNat) ((⟨1, 1, 1, 1⟩ : Cfg).th.toNat) az15.2 := x_138
 have hS_141 : az15.1.good := hS_139
 have hM_142 : az15.2.good := hM_140
 refine K.z ?_
 refine K.blk_normal ?_
 refine K.t (K.g (K.q [.int .i64 5, .int .i64 6, .int .i64 6] (K.z (K.t ?_))))
 refine K.Unr.succ ?_
 refine K.s (K.s (K.g (K.q [.int .i64 6, .bool true] (K.z (K.t (K.h (K.k (K.t (K.s ?_)))))))))
 refine K.KW.block ?_
 refine K.g (K.q [.pointer (some ⟨p_19, 0, none⟩), .pointer (some ⟨p_2, 0, none⟩)] ?_)
 refine K.l (K.OW.gcall hS [0, 1, 2] [3, 4, 5] [.pointer (some ⟨p_19, 0, none⟩), .pointer (some ⟨p_2, 0, none⟩)] (reStep_ok _ _ _ _ _ _ _ (⟨1, 1, 1, 1⟩ : Cfg) (by first | assumption | (unfold cfgOk; decide)) az15.1 az15.2 _ _ _ h_137 hl_9 x_138 (by assumption) (by assumption)) ?_)
 clear hS; rintro _ _ w ⟨g_143, l_144, rfl, rfl, h_145, x_146⟩ hS
 replace hS : K.Sat w0 [g_143, gl_6, l_144, g_87, m_8, fr] w := hS
 obtain ⟨hS_147, hM_148⟩ := (resStep_good (by first | assumption | (unfold cfgOk; decide)) (by assumption) (by assumption) : (resStep (⟨1, 1, 1, 1⟩ : Cfg) ((lns (⟨1, 1, 1, 1⟩ : Cfg)).toNat) ((⟨1, 1, 1, 1⟩ : Cfg).th.toNat) az15.1 az15.2).1.good ∧ (resStep (⟨1, 1, 1, 1⟩ : Cfg) ((lns (⟨1, 1, 1, 1⟩ : Cfg)).toNat) ((⟨1, 1, 1, 1⟩ : Cfg).th.toNat) az15.1 az15.2).2.good)
 replace h_145 : g_143 = resPt p_19 b_1 az16.1 := h_145
 replace x_146 : MemAt l_144 p_2 q_3 ((lns (⟨1, 1, 1, 1⟩ : Cfg)).toNat) ((⟨1, 1, 1, 1⟩ : Cfg).th.toNat) az16.2 := x_146
 have hS_149 : az16.1.good := hS_147
 have hM_150 : az16.2.good := hM_148
 refine K.z ?_
 refine K.blk_normal ?_
 refine K.t (K.g (K.q [.int .i64 6, .int .i64 7, .int .i64 7] (K.z (K.t ?_))))
 refine K.Unr.succ ?_
 refine K.s (K.s (K.g (K.q [.int .i64 7, .bool true] (K.z (K.t (K.h (K.k (K.t (K.s ?_)))))))))
 refine K.KW.block ?_
 refine K.g (K.q [.pointer (some ⟨p_19, 0, none⟩), .pointer (some ⟨p_2, 0, none⟩)] ?_)
 refine K.l (K.OW.gcall hS [0, 1, 2] [3, 4, 5] [.pointer (some ⟨p_19, 0, none⟩), .pointer (some ⟨p_2, 0, none⟩)] (reStep_ok _ _ _ _ _ _ _ (⟨1, 1, 1, 1⟩ : Cfg) (by first | assumption | (unfold cfgOk; decide)) az16.1 az16.2 _ _ _ h_145 hl_9 x_146 (by assumption) (by assumption)) ?_)
 clear hS; rintro _ _ w ⟨g_151, l_152, rfl, rfl, h_153, x_154⟩ hS
 replace hS : K.Sat w0 [g_151, gl_6, l_152, g_87, m_8, fr] w := hS
 obtain ⟨hS_155, hM_156⟩ := (resStep_good (by first | assumption | (unfold cfgOk; decide)) (by assumption) (by assumption) : (resStep (⟨1, 1, 1, 1⟩ : Cfg) ((lns (⟨1, 1, 1, 1⟩ : Cfg)).toNat) ((⟨1, 1, 1, 1⟩ : Cfg).th.toNat) az16.1 az16.2).1.good ∧ (resStep (⟨1, 1, 1, 1⟩ : Cfg) ((lns (⟨1, 1, 1, 1⟩ : Cfg)).toNat) ((⟨1, 1, 1, 1⟩ : Cfg).th.toNat) az16.1 az16.2).2.good)
 replace h_153 : g_151 = resPt p_19 b_1 az17.1 := h_153
 replace x_154 : MemAt l_152 p_2 q_3 ((lns (⟨1, 1, 1, 1⟩ : Cfg)).toNat) ((⟨1, 1, 1, 1⟩ : Cfg).th.toNat) az17.2 := x_154
 have hS_157 : az17.1.good := hS_155
 have hM_158 : az17.2.good := hM_156
 refine K.z ?_
 refine K.blk_normal ?_
 refine K.t (K.g (K.q [.int .i64 7, .int .i64 8, .int .i64 8] (K.z (K.t ?_))))
 refine K.Unr.succ ?_
 refine K.s (K.s (K.g (K.q [.int .i64 8, .bool true] (K.z (K.t (K.h (K.k (K.t (K.s ?_)))))))))
 refine K.KW.block ?_
 refine K.g (K.q [.pointer (some ⟨p_19, 0, none⟩), .pointer (some ⟨p_2, 0, none⟩)] ?_)
 refine K.l (K.OW.gcall hS [0, 1, 2] [3, 4, 5] [.pointer (some ⟨p_19, 0, none⟩), .pointer (some ⟨p_2, 0, none⟩)] (reStep_ok _ _ _ _ _ _ _ (⟨1, 1, 1, 1⟩ : Cfg) (by first | assumption | (unfold cfgOk; decide)) az17.1 az17.2 _ _ _ h_153 hl_9 x_154 (by assumption) (by assumption)) ?_)
 clear hS; rintro _ _ w ⟨g_159, l_160, rfl, rfl, h_161, x_162⟩ hS
 replace hS : K.Sat w0 [g_159, gl_6, l_160, g_87, m_8, fr] w := hS
 obtain ⟨hS_163, hM_164⟩ := (resStep_good (by first | assumption | (unfold cfgOk; decide)) (by assumption) (by assumption) : (resStep (⟨1, 1, 1, 1⟩ : Cfg) ((lns (⟨1, 1, 1, 1⟩ : Cfg)).toNat) ((⟨1, 1, 1, 1⟩ : Cfg).th.toNat) az17.1 az17.2).1.good ∧ (resStep (⟨1, 1, 1, 1⟩ : Cfg) ((lns (⟨1, 1, 1, 1⟩ : Cfg)).toNat) ((⟨1, 1, 1, 1⟩ : Cfg).th.toNat) az17.1 az17.2).2.good)
 replace h_161 : g_159 = resPt p_19 b_1 az18.1 := h_161
 replace x_162 : MemAt l_160 p_2 q_3 ((lns (⟨1, 1, 1, 1⟩ : Cfg)).toNat) ((⟨1, 1, 1, 1⟩ : Cfg).th.toNat) az18.2 := x_162
 have hS_165 : az18.1.good := hS_163
 have hM_166 : az18.2.good := hM_164
 refine K.z ?_
 refine K.blk_normal ?_
 refine K.t (K.g (K.q [.int .i64 8, .int .i64 9, .int .i64 9] (K.z (K.t ?_))))
 refine K.Unr.zero ?_
 refine K.s (K.s (K.g (K.q [.int .i64 9, .bool false] (K.z (K.t (K.f ?_))))))
 refine K.KW.exit ?_
 refine K.thn_exit ?_
 refine K.thn_exit ?_
 refine K.blk_hit ?_
 refine K.t (K.s (K.g (K.q [.pointer (some ⟨b_1, 0, none⟩), .pointer (some ⟨p_2, 0, none⟩)] ?_)))
 refine K.l (K.OW.gcall hS [1, 2] [0, 3, 4, 5] [.pointer (some ⟨b_1, 0, none⟩), .pointer (some ⟨p_2, 0, none⟩), .int .i64 0] (slots_ok _ _ _ _ _ _ (⟨1, 1, 1, 1⟩ : Cfg) (by first | assumption | (unfold cfgOk; decide)) az18.2 _ _ hl_9 x_162 (by assumption) (0 : Int) (by omega)) ?_)
 clear hS; rintro _ _ w ⟨r_167, cc_168, l_169, rfl, rfl, o_170⟩ hS
 replace hS : K.Sat w0 [gl_6, l_160, l_169, g_159, g_87, m_8, fr] w := hS
 have hl1 : (slotsT (⟨1, 1, 1, 1⟩ : Cfg) ((lns (⟨1, 1, 1, 1⟩ : Cfg)).toNat) az18.2 (0 : Int) (⟨1, 1, 1, 1⟩ : Cfg).lo.toNat).length = 1 := by kernel_rfl
 refine K.q [.slice r_167 ((slotsT (⟨1, 1, 1, 1⟩ : Cfg) ((lns (⟨1, 1, 1, 1⟩ : Cfg)).toNat) az18.2 (0 : Int) (⟨1, 1, 1, 1⟩ : Cfg).lo.toNat).length) cc_168] (K.z (K.t (K.s ?_)))
 obtain ⟨b_171, rfl⟩ := o_170.some_ (by have := o_170.le; omega)
 refine K.g (K.q [.bool true, .bool true, .pointer (some ⟨p_15, 0, none⟩)] ?_)
 refine K.l (K.OW.gcall hS [4] [0, 1, 2, 3, 5, 6] [.pointer (some ⟨p_15, 0, none⟩)] (reDoneB_ok _ _ _ az9.1 _ h_89) ?_)
 clear hS; rintro _ _ w ⟨rfl, rfl⟩ hS
 replace hS : K.Sat w0 [g_87, gl_6, l_160, l_169, g_159, m_8, fr] w := hS
 cases hb_173 : az9.1.done
 ·cases (hb_173.symm.trans (show az9.1.done = true from by kernel_rfl))
 ·
  refine K.q [.bool true, .bool true, .pointer (some ⟨p_15, 0, none⟩)] ?_
  refine K.l (K.OW.gcall hS [0, 1] [2, 3, 4, 5, 6] [.pointer (some ⟨p_15, 0, none⟩)] (rePlace_ok _ _ _ (⟨1, 1, 1, 1⟩ : Cfg) (by first | assumption | (unfold cfgOk; decide)) az9.1 _ _ h_89 hl_9) ?_)
  clear hS; rintro _ _ w ⟨rfl, rfl⟩ hS
  replace hS : K.Sat w0 [g_87, gl_6, l_160, l_169, g_159, m_8, fr] w := hS
  refine K.ye ((rePlace (⟨1, 1, 1, 1⟩ : Cfg) az9.1) : Int) (0 : Int) (by kernel_rfl) ?_
  refine K.q [.bool true, .bool true, .pointer (some ⟨p_19, 0, none⟩)] ?_
  refine K.l (K.OW.gcall hS [4] [0, 1, 2, 3, 5, 6] [.pointer (some ⟨p_19, 0, none⟩)] (reDoneB_ok _ _ _ az18.1 _ h_161) ?_)
  clear hS; rintro _ _ w ⟨rfl, rfl⟩ hS
  replace hS : K.Sat w0 [g_159, g_87, gl_6, l_160, l_169, m_8, fr] w := hS
  cases hb_174 : az18.1.done
  ·cases (hb_174.symm.trans (show az18.1.done = true from by kernel_rfl))
  ·
   refine K.q [.bool true, .bool true, .pointer (some ⟨p_19, 0, none⟩)] ?_
   refine K.l (K.OW.gcall hS [0, 2] [1, 3, 4, 5, 6] [.pointer (some ⟨p_19, 0, none⟩)] (rePlace_ok _ _ _ (⟨1, 1, 1, 1⟩ : Cfg) (by first | assumption | (unfold cfgOk; decide)) az18.1 _ _ h_161 hl_9) ?_)
   clear hS; rintro _ _ w ⟨rfl, rfl⟩ hS
   replace hS : K.Sat w0 [g_159, gl_6, g_87, l_160, l_169, m_8, fr] w := hS
   refine K.ye ((rePlace (⟨1, 1, 1, 1⟩ : Cfg) az18.1) : Int) ((-1) : Int) (by kernel_rfl) ?_
   refine K.q [.bool true, .bool true, .slice (some ⟨b_171, 0, none⟩) ((slotsT (⟨1, 1, 1, 1⟩ : Cfg) ((lns (⟨1, 1, 1, 1⟩ : Cfg)).toNat) az18.2 (0 : Int) (⟨1, 1, 1, 1⟩ : Cfg).lo.toNat).length) cc_168] ?_
   refine K.a (K.QR.len (P := Tryz.prog) rfl rfl Tryz.underlying45) ?_
   refine K.ye ((((slotsT (⟨1, 1, 1, 1⟩ : Cfg) ((lns (⟨1, 1, 1, 1⟩ : Cfg)).toNat) az18.2 (0 : Int) (⟨1, 1, 1, 1⟩ : Cfg).lo.toNat).length : Nat) : Int) : Int) (1 : Int) (by omega) ?_
   refine K.q [.bool true, .bool true, .slice (some ⟨b_171, 0, none⟩) ((slotsT (⟨1, 1, 1, 1⟩ : Cfg) ((lns (⟨1, 1, 1, 1⟩ : Cfg)).toNat) az18.2 (0 : Int) (⟨1, 1, 1, 1⟩ : Cfg).lo.toNat).length) cc_168] ?_
   refine K.a (K.QR.ix 0 1 rfl rfl rfl Tryz.underlying45 (by kernel_rfl) (by omega) (by first | (simp; done) | omega | (simp; omega))) ?_
   refine K.d (.int .i64 ((slotsT (⟨1, 1, 1, 1⟩ : Cfg) ((lns (⟨1, 1, 1, 1⟩ : Cfg)).toNat) az18.2 (0 : Int) (⟨1, 1, 1, 1⟩ : Cfg).lo.toNat).getD 0 0)) (K.Own.atS (c := cI64) (d := 0) (fun _ => rfl) (hS.ownr 4 rfl o_170) rfl 0 (by omega)) ?_
   refine K.ye ((slotsT (⟨1, 1, 1, 1⟩ : Cfg) ((lns (⟨1, 1, 1, 1⟩ : Cfg)).toNat) az18.2 (0 : Int) (⟨1, 1, 1, 1⟩ : Cfg).lo.toNat).getD 0 0 : Int) (0 : Int) (by kernel_rfl) ?_
   refine K.q [.bool true, .bool true] (K.z (K.t (K.r ?_)))
   refine ⟨.inr rfl, rfl, (.bool true), K.res1 rfl rfl, [], ?_, hS.pick [6]⟩
   exact ⟨rfl, rfl⟩
end Go.Proofs.YtkmndplicmaahaaGreat
