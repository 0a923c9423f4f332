/- The page's example of layer 10. -/
import Derived.Test.YtajkickofkeemaaGreatFl10
import Derived.Test.YtajkickofkeemaaGreatKn
namespace Go.Proofs.YtajkickofkeemaaGreat
open Go.RowKit
set_option linter.unusedVariables false
attribute [local irreducible] K.KW K.RW K.DW K.OW K.QR K.KC
def axC : Cfg := ⟨1, 1, 1, 1⟩
def ax0 : MemM := groundM (lns axC).toNat axC.th.toNat (2 + axC.th + axC.sl).toNat []
def ax1 := entStep axC (lns axC).toNat ⟨0, false, 0, false⟩ ax0
def ax2 := entStep axC (lns axC).toNat ax1.1 ax1.2
def ax3 := entStep axC (lns axC).toNat ax2.1 ax2.2
def ax4 := entStep axC (lns axC).toNat ax3.1 ax3.2
def ax5 := advStep axC (lns axC).toNat ⟨0, false, 0, 0, 0, false⟩ ax4.2
def ax6 := advStep axC (lns axC).toNat ax5.1 ax5.2
def ax7 := advStep axC (lns axC).toNat ax6.1 ax6.2
def ax8 := advStep axC (lns axC).toNat ax7.1 ax7.2
def ax9 := advStep axC (lns axC).toNat ⟨0, false, 0, 0, 0, false⟩ ax8.2
def ax10 := advStep axC (lns axC).toNat ax9.1 ax9.2
def ax11 := advStep axC (lns axC).toNat ax10.1 ax10.2
def ax12 := advStep axC (lns axC).toNat ax11.1 ax11.2
set_option maxHeartbeats 4000000 in
set_option maxRecDepth 100000 in
theorem awake10_ok (w0 : World)  :
  K.GC Tryz.prog w0 7 #[] [] (fun v post => v = .bool true ∧ post = []) := by
 refine K.GC.mk (n := 79) Tryz.func7 rfl rfl [] rfl rfl ?_
 intro fr w hS
 replace hS : K.Sat w0 [fr] w := hS
 refine K.s (K.g (K.q [.bool false] (K.z (K.t (K.s (K.g ?_))))))
 refine K.a (K.QR.bd [(0, .int .i64 1), (1, .int .i64 1), (2, .int .i64 1), (3, .int .i64 1)] [.int .i64 1, .int .i64 1, .int .i64 1, .int .i64 1] rfl rfl (by kernel_rfl)) ?_
 refine K.a (K.QR.bd [(0, .agg #[.int .i64 1, .int .i64 1, .int .i64 1, .int .i64 1])] [.int .i64 1, .int .i64 1, .int .i64 1, .int .i64 1, .slice none 0 0] rfl rfl (by kernel_rfl)) ?_
 refine K.l (K.OW.gcall hS [51] [0] [.agg #[.int .i64 1, .int .i64 1, .int .i64 1, .int .i64 1, .slice none 0 0]] (layS_ok _ (⟨1, 1, 1, 1⟩ : Cfg) _ _ [] (fun j hj => absurd hj (by simp)) (⟨by unfold fewC cfgOk; decide, by decide⟩) _ (fun _ _ => K.RowE.zero _ _ _ _)) ?_)
 clear hS; rintro _ _ w ⟨b_1, p_2, q_3, r_4, u_5, _, _, gl_6, l_7, m_8, rfl, rfl, hl_9, x_10, y_11, rfl, rfl, hf_12, hp_13⟩ hS
 replace hS : K.Sat w0 [gl_6, l_7, m_8, fr] w := hS.of (by simp [K.pick, K.nth])
 replace x_10 : MemAt l_7 p_2 q_3 ((lns (⟨1, 1, 1, 1⟩ : Cfg)).toNat) ((⟨1, 1, 1, 1⟩ : Cfg).th.toNat) ax0 := x_10
 have hM_14 : ax0.good := ground_good (fun j hj => absurd hj (by simp))
 refine K.q [.tuple #[.pointer (some ⟨b_1, 0, none⟩), .pointer (some ⟨p_2, 0, none⟩), .pointer (some ⟨r_4, 0, none⟩), .bool true], .pointer (some ⟨b_1, 0, none⟩), .pointer (some ⟨p_2, 0, none⟩), .pointer (some ⟨r_4, 0, none⟩), .bool true, .pointer (some ⟨b_1, 0, none⟩), .pointer (some ⟨p_2, 0, none⟩), .pointer (some ⟨r_4, 0, none⟩), .bool true] (K.z (K.t (K.s (K.g (K.q [.pointer (some ⟨b_1, 0, none⟩)] ?_)))))
 refine K.l (K.OW.gcall hS [] [0, 1, 2, 3] [.pointer (some ⟨b_1, 0, none⟩), .int .i64 0] (newent_ok _ _ (0 : Int)) ?_)
 clear hS; rintro _ _ w ⟨p_15, g_16, rfl, rfl, h_17⟩ hS
 replace hS : K.Sat w0 [g_16, gl_6, l_7, m_8, fr] w := hS
 have hS_18 : EntS.good (⟨0, false, 0, false⟩ : EntS) := ⟨(by omega : isInt (0 : Int)), isW00⟩
 refine K.q [.pointer (some ⟨b_1, 0, none⟩)] ?_
 refine K.l (K.OW.gcall hS [] [0, 1, 2, 3, 4] [.pointer (some ⟨b_1, 0, none⟩), .int .i64 0] (newadv_ok _ _ (0 : Int)) ?_)
 clear hS; rintro _ _ w ⟨p_19, g_20, rfl, rfl, h_21⟩ hS
 replace hS : K.Sat w0 [g_20, g_16, gl_6, l_7, m_8, fr] w := hS
 have hS_22 : AdvS.good (⟨0, false, 0, 0, 0, false⟩ : AdvS) := ⟨(by omega : isInt (0 : Int)), isW00, ⟨Int.le_refl _, (by decide : (0 : Int) ≤ 64)⟩, .inr (.inl ⟨rfl, rfl⟩)⟩
 refine K.q [.pointer (some ⟨b_1, 0, none⟩)] ?_
 refine K.l (K.OW.gcall hS [] [0, 1, 2, 3, 4, 5] [.pointer (some ⟨b_1, 0, none⟩), .int .i64 0] (newadv_ok _ _ (0 : Int)) ?_)
 clear hS; rintro _ _ w ⟨p_23, g_24, rfl, rfl, h_25⟩ hS
 replace hS : K.Sat w0 [g_24, g_20, g_16, gl_6, l_7, m_8, fr] w := hS
 have hS_26 : AdvS.good (⟨0, false, 0, 0, 0, false⟩ : AdvS) := ⟨(by omega : isInt (0 : Int)), isW00, ⟨Int.le_refl _, (by decide : (0 : Int) ≤ 64)⟩, .inr (.inl ⟨rfl, rfl⟩)⟩
 refine K.q [.pointer (some ⟨p_15, 0, none⟩), .pointer (some ⟨p_19, 0, none⟩), .pointer (some ⟨p_23, 0, none⟩)] (K.z (K.t (K.s (K.s (K.g (K.q [.int .i64 0] (K.z (K.t ?_))))))))
 refine K.KW.block ?_
 refine K.KW.unr 4 ?_
 refine K.Unr.succ ?_
 refine K.s (K.s (K.g (K.q [.int .i64 0, .bool true] (K.z (K.t (K.h (K.k (K.t (K.s ?_)))))))))
 refine K.KW.block ?_
 refine K.g (K.q [.pointer (some ⟨p_15, 0, none⟩), .pointer (some ⟨p_2, 0, none⟩)] ?_)
 refine K.l (K.OW.gcall hS [2, 3, 4] [0, 1, 5, 6] [.pointer (some ⟨p_15, 0, none⟩), .pointer (some ⟨p_2, 0, none⟩)] (entStep_ok _ _ _ _ _ _ _ (⟨1, 1, 1, 1⟩ : Cfg) (by first | assumption | (unfold cfgOk; decide)) (⟨0, false, 0, false⟩ : EntS) ax0 _ _ _ h_17 hl_9 x_10 (by assumption) (by assumption)) ?_)
 clear hS; rintro _ _ w ⟨g_27, l_28, rfl, rfl, h_29, x_30⟩ hS
 replace hS : K.Sat w0 [g_27, gl_6, l_28, g_24, g_20, m_8, fr] w := hS
 obtain ⟨hS_31, hM_32⟩ := (entStep_good (by assumption) (by assumption) : (entStep (⟨1, 1, 1, 1⟩ : Cfg) ((lns (⟨1, 1, 1, 1⟩ : Cfg)).toNat) (⟨0, false, 0, false⟩ : EntS) ax0).1.good ∧ (entStep (⟨1, 1, 1, 1⟩ : Cfg) ((lns (⟨1, 1, 1, 1⟩ : Cfg)).toNat) (⟨0, false, 0, false⟩ : EntS) ax0).2.good)
 replace h_29 : g_27 = entPt p_15 b_1 ax1.1 := h_29
 replace x_30 : MemAt l_28 p_2 q_3 ((lns (⟨1, 1, 1, 1⟩ : Cfg)).toNat) ((⟨1, 1, 1, 1⟩ : Cfg).th.toNat) ax1.2 := x_30
 have hS_33 : ax1.1.good := hS_31
 have hM_34 : ax1.2.good := hM_32
 refine K.z ?_
 refine K.blk_normal ?_
 refine K.t (K.g (K.q [.int .i64 0, .int .i64 1, .int .i64 1] (K.z (K.t ?_))))
 refine K.Unr.succ ?_
 refine K.s (K.s (K.g (K.q [.int .i64 1, .bool true] (K.z (K.t (K.h (K.k (K.t (K.s ?_)))))))))
 refine K.KW.block ?_
 refine K.g (K.q [.pointer (some ⟨p_15, 0, none⟩), .pointer (some ⟨p_2, 0, none⟩)] ?_)
 refine K.l (K.OW.gcall hS [0, 1, 2] [3, 4, 5, 6] [.pointer (some ⟨p_15, 0, none⟩), .pointer (some ⟨p_2, 0, none⟩)] (entStep_ok _ _ _ _ _ _ _ (⟨1, 1, 1, 1⟩ : Cfg) (by first | assumption | (unfold cfgOk; decide)) ax1.1 ax1.2 _ _ _ h_29 hl_9 x_30 (by assumption) (by assumption)) ?_)
 clear hS; rintro _ _ w ⟨g_35, l_36, rfl, rfl, h_37, x_38⟩ hS
 replace hS : K.Sat w0 [g_35, gl_6, l_36, g_24, g_20, m_8, fr] w := hS
 obtain ⟨hS_39, hM_40⟩ := (entStep_good (by assumption) (by assumption) : (entStep (⟨1, 1, 1, 1⟩ : Cfg) ((lns (⟨1, 1, 1, 1⟩ : Cfg)).toNat) ax1.1 ax1.2).1.good ∧ (entStep (⟨1, 1, 1, 1⟩ : Cfg) ((lns (⟨1, 1, 1, 1⟩ : Cfg)).toNat) ax1.1 ax1.2).2.good)
 replace h_37 : g_35 = entPt p_15 b_1 ax2.1 := h_37
 replace x_38 : MemAt l_36 p_2 q_3 ((lns (⟨1, 1, 1, 1⟩ : Cfg)).toNat) ((⟨1, 1, 1, 1⟩ : Cfg).th.toNat) ax2.2 := x_38
 have hS_41 : ax2.1.good := hS_39
 have hM_42 : ax2.2.good := hM_40
 refine K.z ?_
 refine K.blk_normal ?_
 refine K.t (K.g (K.q [.int .i64 1, .int .i64 2, .int .i64 2] (K.z (K.t ?_))))
 refine K.Unr.succ ?_
 refine K.s (K.s (K.g (K.q [.int .i64 2, .bool true] (K.z (K.t (K.h (K.k (K.t (K.s ?_)))))))))
 refine K.KW.block ?_
 refine K.g (K.q [.pointer (some ⟨p_15, 0, none⟩), .pointer (some ⟨p_2, 0, none⟩)] ?_)
 refine K.l (K.OW.gcall hS [0, 1, 2] [3, 4, 5, 6] [.pointer (some ⟨p_15, 0, none⟩), .pointer (some ⟨p_2, 0, none⟩)] (entStep_ok _ _ _ _ _ _ _ (⟨1, 1, 1, 1⟩ : Cfg) (by first | assumption | (unfold cfgOk; decide)) ax2.1 ax2.2 _ _ _ h_37 hl_9 x_38 (by assumption) (by assumption)) ?_)
 clear hS; rintro _ _ w ⟨g_43, l_44, rfl, rfl, h_45, x_46⟩ hS
 replace hS : K.Sat w0 [g_43, gl_6, l_44, g_24, g_20, m_8, fr] w := hS
 obtain ⟨hS_47, hM_48⟩ := (entStep_good (by assumption) (by assumption) : (entStep (⟨1, 1, 1, 1⟩ : Cfg) ((lns (⟨1, 1, 1, 1⟩ : Cfg)).toNat) ax2.1 ax2.2).1.good ∧ (entStep (⟨1, 1, 1, 1⟩ : Cfg) ((lns (⟨1, 1, 1, 1⟩ : Cfg)).toNat) ax2.1 ax2.2).2.good)
 replace h_45 : g_43 = entPt p_15 b_1 ax3.1 := h_45
 replace x_46 : MemAt l_44 p_2 q_3 ((lns (⟨1, 1, 1, 1⟩ : Cfg)).toNat) ((⟨1, 1, 1, 1⟩ : Cfg).th.toNat) ax3.2 := x_46
 have hS_49 : ax3.1.good := hS_47
 have hM_50 : ax3.2.good := hM_48
 refine K.z ?_
 refine K.blk_normal ?_
 refine K.t (K.g (K.q [.int .i64 2, .int .i64 3, .int .i64 3] (K.z (K.t ?_))))
 refine K.Unr.succ ?_
 refine K.s (K.s (K.g (K.q [.int .i64 3, .bool true] (K.z (K.t (K.h (K.k (K.t (K.s ?_)))))))))
 refine K.KW.block ?_
 refine K.g (K.q [.pointer (some ⟨p_15, 0, none⟩), .pointer (some ⟨p_2, 0, none⟩)] ?_)
 refine K.l (K.OW.gcall hS [0, 1, 2] [3, 4, 5, 6] [.pointer (some ⟨p_15, 0, none⟩), .pointer (some ⟨p_2, 0, none⟩)] (entStep_ok _ _ _ _ _ _ _ (⟨1, 1, 1, 1⟩ : Cfg) (by first | assumption | (unfold cfgOk; decide)) ax3.1 ax3.2 _ _ _ h_45 hl_9 x_46 (by assumption) (by assumption)) ?_)
 clear hS; rintro _ _ w ⟨g_51, l_52, rfl, rfl, h_53, x_54⟩ hS
 replace hS : K.Sat w0 [g_51, gl_6, l_52, g_24, g_20, m_8, fr] w := hS
 obtain ⟨hS_55, hM_56⟩ := (entStep_good (by assumption) (by assumption) : (entStep (⟨1, 1, 1, 1⟩ : Cfg) ((lns (⟨1, 1, 1, 1⟩ : Cfg)).toNat) ax3.1 ax3.2).1.good ∧ (entStep (⟨1, 1, 1, 1⟩ : Cfg) ((lns (⟨1, 1, 1, 1⟩ : Cfg)).toNat) ax3.1 ax3.2).2.good)
 replace h_53 : g_51 = entPt p_15 b_1 ax4.1 := h_53
 replace x_54 : MemAt l_52 p_2 q_3 ((lns (⟨1, 1, 1, 1⟩ : Cfg)).toNat) ((⟨1, 1, 1, 1⟩ : Cfg).th.toNat) ax4.2 := x_54
 have hS_57 : ax4.1.good := hS_55
 have hM_58 : ax4.2.good := hM_56
 refine K.z ?_
 refine K.blk_normal ?_
 refine K.t (K.g (K.q [.int .i64 3, .int .i64 4, .int .i64 4] (K.z (K.t ?_))))
 refine K.Unr.zero ?_
 refine K.s (K.s (K.g (K.q [.int .i64 4, .bool false] (K.z (K.t (K.f ?_))))))
 refine K.KW.exit ?_
 refine K.thn_exit ?_
 refine K.thn_exit ?_
 refine K.blk_hit ?_
 refine K.t (K.s (K.s (K.g (K.q [.int .i64 0] (K.z (K.t ?_))))))
 refine K.KW.block ?_
 refine K.KW.unr 4 ?_
 refine K.Unr.succ ?_
 refine K.s (K.s (K.g (K.q [.int .i64 0, .bool true] (K.z (K.t (K.h (K.k (K.t (K.s ?_)))))))))
 refine K.KW.block ?_
 refine K.g (K.q [.pointer (some ⟨p_19, 0, none⟩), .pointer (some ⟨p_2, 0, none⟩)] ?_)
 refine K.l (K.OW.gcall hS [4, 1, 2] [0, 3, 5, 6] [.pointer (some ⟨p_19, 0, none⟩), .pointer (some ⟨p_2, 0, none⟩)] (advStep_ok _ _ _ _ _ _ _ (⟨1, 1, 1, 1⟩ : Cfg) (by first | assumption | (unfold cfgOk; decide)) (⟨0, false, 0, 0, 0, false⟩ : AdvS) ax4.2 _ _ _ h_21 hl_9 x_54 (by assumption) (by assumption)) ?_)
 clear hS; rintro _ _ w ⟨g_59, l_60, rfl, rfl, h_61, x_62⟩ hS
 replace hS : K.Sat w0 [g_59, gl_6, l_60, g_51, g_24, m_8, fr] w := hS
 obtain ⟨hS_63, hM_64⟩ := (advStep_good (by first | assumption | (unfold cfgOk; decide)) (by assumption) (by assumption) : (advStep (⟨1, 1, 1, 1⟩ : Cfg) ((lns (⟨1, 1, 1, 1⟩ : Cfg)).toNat) (⟨0, false, 0, 0, 0, false⟩ : AdvS) ax4.2).1.good ∧ (advStep (⟨1, 1, 1, 1⟩ : Cfg) ((lns (⟨1, 1, 1, 1⟩ : Cfg)).toNat) (⟨0, false, 0, 0, 0, false⟩ : AdvS) ax4.2).2.good)
 replace h_61 : g_59 = advPt p_19 b_1 ax5.1 := h_61
 replace x_62 : MemAt l_60 p_2 q_3 ((lns (⟨1, 1, 1, 1⟩ : Cfg)).toNat) ((⟨1, 1, 1, 1⟩ : Cfg).th.toNat) ax5.2 := x_62
 have hS_65 : ax5.1.good := hS_63
 have hM_66 : ax5.2.good := hM_64
 refine K.z ?_
 refine K.blk_normal ?_
 refine K.t (K.g (K.q [.int .i64 0, .int .i64 1, .int .i64 1] (K.z (K.t ?_))))
 refine K.Unr.succ ?_
 refine K.s (K.s (K.g (K.q [.int .i64 1, .bool true] (K.z (K.t (K.h (K.k (K.t (K.s ?_)))))))))
 refine K.KW.block ?_
 refine K.g (K.q [.pointer (some ⟨p_19, 0, none⟩), .pointer (some ⟨p_2, 0, none⟩)] ?_)
 refine K.l (K.OW.gcall hS [0, 1, 2] [3, 4, 5, 6] [.pointer (some ⟨p_19, 0, none⟩), .pointer (some ⟨p_2, 0, none⟩)] (advStep_ok _ _ _ _ _ _ _ (⟨1, 1, 1, 1⟩ : Cfg) (by first | assumption | (unfold cfgOk; decide)) ax5.1 ax5.2 _ _ _ h_61 hl_9 x_62 (by assumption) (by assumption)) ?_)
 clear hS; rintro _ _ w ⟨g_67, l_68, rfl, rfl, h_69, x_70⟩ hS
 replace hS : K.Sat w0 [g_67, gl_6, l_68, g_51, g_24, m_8, fr] w := hS
 obtain ⟨hS_71, hM_72⟩ := (advStep_good (by first | assumption | (unfold cfgOk; decide)) (by assumption) (by assumption) : (advStep (⟨1, 1, 1, 1⟩ : Cfg) ((lns (⟨1, 1, 1, 1⟩ : Cfg)).toNat) ax5.1 ax5.2).1.good ∧ (advStep (⟨1, 1, 1, 1⟩ : Cfg) ((lns (⟨1, 1, 1, 1⟩ : Cfg)).toNat) ax5.1 ax5.2).2.good)
 replace h_69 : g_67 = advPt p_19 b_1 ax6.1 := h_69
 replace x_70 : MemAt l_68 p_2 q_3 ((lns (⟨1, 1, 1, 1⟩ : Cfg)).toNat) ((⟨1, 1, 1, 1⟩ : Cfg).th.toNat) ax6.2 := x_70
 have hS_73 : ax6.1.good := hS_71
 have hM_74 : ax6.2.good := hM_72
 refine K.z ?_
 refine K.blk_normal ?_
 refine K.t (K.g (K.q [.int .i64 1, .int .i64 2, .int .i64 2] (K.z (K.t ?_))))
 refine K.Unr.succ ?_
 refine K.s (K.s (K.g (K.q [.int .i64 2, .bool true] (K.z (K.t (K.h (K.k (K.t (K.s ?_)))))))))
 refine K.KW.block ?_
 refine K.g (K.q [.pointer (some ⟨p_19, 0, none⟩), .pointer (some ⟨p_2, 0, none⟩)] ?_)
 refine K.l (K.OW.gcall hS [0, 1, 2] [3, 4, 5, 6] [.pointer (some ⟨p_19, 0, none⟩), .pointer (some ⟨p_2, 0, none⟩)] (advStep_ok _ _ _ _ _ _ _ (⟨1, 1, 1, 1⟩ : Cfg) (by first | assumption | (unfold cfgOk; decide)) ax6.1 ax6.2 _ _ _ h_69 hl_9 x_70 (by assumption) (by assumption)) ?_)
 clear hS; rintro _ _ w ⟨g_75, l_76, rfl, rfl, h_77, x_78⟩ hS
 replace hS : K.Sat w0 [g_75, gl_6, l_76, g_51, g_24, m_8, fr] w := hS
 obtain ⟨hS_79, hM_80⟩ := (advStep_good (by first | assumption | (unfold cfgOk; decide)) (by assumption) (by assumption) : (advStep (⟨1, 1, 1, 1⟩ : Cfg) ((lns (⟨1, 1, 1, 1⟩ : Cfg)).toNat) ax6.1 ax6.2).1.good ∧ (advStep (⟨1, 1, 1, 1⟩ : Cfg) ((lns (⟨1, 1, 1, 1⟩ : Cfg)).toNat) ax6.1 ax6.2).2.good)
 replace h_77 : g_75 = advPt p_19 b_1 ax7.1 := h_77
 replace x_78 : MemAt l_76 p_2 q_3 ((lns (⟨1, 1, 1, 1⟩ : Cfg)).toNat) ((⟨1, 1, 1, 1⟩ : Cfg).th.toNat) ax7.2 := x_78
 have hS_81 : ax7.1.good := hS_79
 have hM_82 : ax7.2.good := hM_80
 refine K.z ?_
 refine K.blk_normal ?_
 refine K.t (K.g (K.q [.int .i64 2, .int .i64 3, .int .i64 3] (K.z (K.t ?_))))
 refine K.Unr.succ ?_
 refine K.s (K.s (K.g (K.q [.int .i64 3, .bool true] (K.z (K.t (K.h (K.k (K.t (K.s ?_)))))))))
 refine K.KW.block ?_
 refine K.g (K.q [.pointer (some ⟨p_19, 0, none⟩), .pointer (some ⟨p_2, 0, none⟩)] ?_)
 refine K.l (K.OW.gcall hS [0, 1, 2] [3, 4, 5, 6] [.pointer (some ⟨p_19, 0, none⟩), .pointer (some ⟨p_2, 0, none⟩)] (advStep_ok _ _ _ _ _ _ _ (⟨1, 1, 1, 1⟩ : Cfg) (by first | assumption | (unfold cfgOk; decide)) ax7.1 ax7.2 _ _ _ h_77 hl_9 x_78 (by assumption) (by assumption)) ?_)
 clear hS; rintro _ _ w ⟨g_83, l_84, rfl, rfl, h_85, x_86⟩ hS
 replace hS : K.Sat w0 [g_83, gl_6, l_84, g_51, g_24, m_8, fr] w := hS
 obtain ⟨hS_87, hM_88⟩ := (advStep_good (by first | assumption | (unfold cfgOk; decide)) (by assumption) (by assumption) : (advStep (⟨1, 1, 1, 1⟩ : Cfg) ((lns (⟨1, 1, 1, 1⟩ : Cfg)).toNat) ax7.1 ax7.2).1.good ∧ (advStep (⟨1, 1, 1, 1⟩ : Cfg) ((lns (⟨1, 1, 1, 1⟩ : Cfg)).toNat) ax7.1 ax7.2).2.good)
 replace h_85 : g_83 = advPt p_19 b_1 ax8.1 := h_85
 replace x_86 : MemAt l_84 p_2 q_3 ((lns (⟨1, 1, 1, 1⟩ : Cfg)).toNat) ((⟨1, 1, 1, 1⟩ : Cfg).th.toNat) ax8.2 := x_86
 have hS_89 : ax8.1.good := hS_87
 have hM_90 : ax8.2.good := hM_88
 refine K.z ?_
 refine K.blk_normal ?_
 refine K.t (K.g (K.q [.int .i64 3, .int .i64 4, .int .i64 4] (K.z (K.t ?_))))
 refine K.Unr.zero ?_
 refine K.s (K.s (K.g (K.q [.int .i64 4, .bool false] (K.z (K.t (K.f ?_))))))
 refine K.KW.exit ?_
 refine K.thn_exit ?_
 refine K.thn_exit ?_
 refine K.blk_hit ?_
 refine K.t (K.s (K.s (K.g (K.q [.int .i64 0] (K.z (K.t ?_))))))
 refine K.KW.block ?_
 refine K.KW.unr 4 ?_
 refine K.Unr.succ ?_
 refine K.s (K.s (K.g (K.q [.int .i64 0, .bool true] (K.z (K.t (K.h (K.k (K.t (K.s ?_)))))))))
 refine K.KW.block ?_
 refine K.g (K.q [.pointer (some ⟨p_23, 0, none⟩), .pointer (some ⟨p_2, 0, none⟩)] ?_)
 refine K.l (K.OW.gcall hS [4, 1, 2] [0, 3, 5, 6] [.pointer (some ⟨p_23, 0, none⟩), .pointer (some ⟨p_2, 0, none⟩)] (advStep_ok _ _ _ _ _ _ _ (⟨1, 1, 1, 1⟩ : Cfg) (by first | assumption | (unfold cfgOk; decide)) (⟨0, false, 0, 0, 0, false⟩ : AdvS) ax8.2 _ _ _ h_25 hl_9 x_86 (by assumption) (by assumption)) ?_)
 clear hS; rintro _ _ w ⟨g_91, l_92, rfl, rfl, h_93, x_94⟩ hS
 replace hS : K.Sat w0 [g_91, gl_6, l_92, g_83, g_51, m_8, fr] w := hS
 obtain ⟨hS_95, hM_96⟩ := (advStep_good (by first | assumption | (unfold cfgOk; decide)) (by assumption) (by assumption) : (advStep (⟨1, 1, 1, 1⟩ : Cfg) ((lns (⟨1, 1, 1, 1⟩ : Cfg)).toNat) (⟨0, false, 0, 0, 0, false⟩ : AdvS) ax8.2).1.good ∧ (advStep (⟨1, 1, 1, 1⟩ : Cfg) ((lns (⟨1, 1, 1, 1⟩ : Cfg)).toNat) (⟨0, false, 0, 0, 0, false⟩ : AdvS) ax8.2).2.good)
 replace h_93 : g_91 = advPt p_23 b_1 ax9.1 := h_93
 replace x_94 : MemAt l_92 p_2 q_3 ((lns (⟨1, 1, 1, 1⟩ : Cfg)).toNat) ((⟨1, 1, 1, 1⟩ : Cfg).th.toNat) ax9.2 := x_94
 have hS_97 : ax9.1.good := hS_95
 have hM_98 : ax9.2.good := hM_96
 refine K.z ?_
 refine K.blk_normal ?_
 refine K.t (K.g (K.q [.int .i64 0, .int .i64 1, .int .i64 1] (K.z (K.t ?_))))
 refine K.Unr.succ ?_
 refine K.s (K.s (K.g (K.q [.int .i64 1, .bool true] (K.z (K.t (K.h (K.k (K.t (K.s ?_)))))))))
 refine K.KW.block ?_
 refine K.g (K.q [.pointer (some ⟨p_23, 0, none⟩), .pointer (some ⟨p_2, 0, none⟩)] ?_)
 refine K.l (K.OW.gcall hS [0, 1, 2] [3, 4, 5, 6] [.pointer (some ⟨p_23, 0, none⟩), .pointer (some ⟨p_2, 0, none⟩)] (advStep_ok _ _ _ _ _ _ _ (⟨1, 1, 1, 1⟩ : Cfg) (by first | assumption | (unfold cfgOk; decide)) ax9.1 ax9.2 _ _ _ h_93 hl_9 x_94 (by assumption) (by assumption)) ?_)
 clear hS; rintro _ _ w ⟨g_99, l_100, rfl, rfl, h_101, x_102⟩ hS
 replace hS : K.Sat w0 [g_99, gl_6, l_100, g_83, g_51, m_8, fr] w := hS
 obtain ⟨hS_103, hM_104⟩ := (advStep_good (by first | assumption | (unfold cfgOk; decide)) (by assumption) (by assumption) : (advStep (⟨1, 1, 1, 1⟩ : Cfg) ((lns (⟨1, 1, 1, 1⟩ : Cfg)).toNat) ax9.1 ax9.2).1.good ∧ (advStep (⟨1, 1, 1, 1⟩ : Cfg) ((lns (⟨1, 1, 1, 1⟩ : Cfg)).toNat) ax9.1 ax9.2).2.good)
 replace h_101 : g_99 = advPt p_23 b_1 ax10.1 := h_101
 replace x_102 : MemAt l_100 p_2 q_3 ((lns (⟨1, 1, 1, 1⟩ : Cfg)).toNat) ((⟨1, 1, 1, 1⟩ : Cfg).th.toNat) ax10.2 := x_102
 have hS_105 : ax10.1.good := hS_103
 have hM_106 : ax10.2.good := hM_104
 refine K.z ?_
 refine K.blk_normal ?_
 refine K.t (K.g (K.q [.int .i64 1, .int .i64 2, .int .i64 2] (K.z (K.t ?_))))
 refine K.Unr.succ ?_
 refine K.s (K.s (K.g (K.q [.int .i64 2, .bool true] (K.z (K.t (K.h (K.k (K.t (K.s ?_)))))))))
 refine K.KW.block ?_
 refine K.g (K.q [.pointer (some ⟨p_23, 0, none⟩), .pointer (some ⟨p_2, 0, none⟩)] ?_)
 refine K.l (K.OW.gcall hS [0, 1, 2] [3, 4, 5, 6] [.pointer (some ⟨p_23, 0, none⟩), .pointer (some ⟨p_2, 0, none⟩)] (advStep_ok _ _ _ _ _ _ _ (⟨1, 1, 1, 1⟩ : Cfg) (by first | assumption | (unfold cfgOk; decide)) ax10.1 ax10.2 _ _ _ h_101 hl_9 x_102 (by assumption) (by assumption)) ?_)
 clear hS; rintro _ _ w ⟨g_107, l_108, rfl, rfl, h_109, x_110⟩ hS
 replace hS : K.Sat w0 [g_107, gl_6, l_108, g_83, g_51, m_8, fr] w := hS
 obtain ⟨hS_111, hM_112⟩ := (advStep_good (by first | assumption | (unfold cfgOk; decide)) (by assumption) (by assumption) : (advStep (⟨1, 1, 1, 1⟩ : Cfg) ((lns (⟨1, 1, 1, 1⟩ : Cfg)).toNat) ax10.1 ax10.2).1.good ∧ (advStep (⟨1, 1, 1, 1⟩ : Cfg) ((lns (⟨1, 1, 1, 1⟩ : Cfg)).toNat) ax10.1 ax10.2).2.good)
 replace h_109 : g_107 = advPt p_23 b_1 ax11.1 := h_109
 replace x_110 : MemAt l_108 p_2 q_3 ((lns (⟨1, 1, 1, 1⟩ : Cfg)).toNat) ((⟨1, 1, 1, 1⟩ : Cfg).th.toNat) ax11.2 := x_110
 have hS_113 : ax11.1.good := hS_111
 have hM_114 : ax11.2.good := hM_112
 refine K.z ?_
 refine K.blk_normal ?_
 refine K.t (K.g (K.q [.int .i64 2, .int .i64 3, .int .i64 3] (K.z (K.t ?_))))
 refine K.Unr.succ ?_
 refine K.s (K.s (K.g (K.q [.int .i64 3, .bool true] (K.z (K.t (K.h (K.k (K.t (K.s ?_)))))))))
 refine K.KW.block ?_
 refine K.g (K.q [.pointer (some ⟨p_23, 0, none⟩), .pointer (some ⟨p_2, 0, none⟩)] ?_)
 refine K.l (K.OW.gcall hS [0, 1, 2] [3, 4, 5, 6] [.pointer (some ⟨p_23, 0, none⟩), .pointer (some ⟨p_2, 0, none⟩)] (advStep_ok _ _ _ _ _ _ _ (⟨1, 1, 1, 1⟩ : Cfg) (by first | assumption | (unfold cfgOk; decide)) ax11.1 ax11.2 _ _ _ h_109 hl_9 x_110 (by assumption) (by assumption)) ?_)
 clear hS; rintro _ _ w ⟨g_115, l_116, rfl, rfl, h_117, x_118⟩ hS
 replace hS : K.Sat w0 [g_115, gl_6, l_116, g_83, g_51, m_8, fr] w := hS
 obtain ⟨hS_119, hM_120⟩ := (advStep_good (by first | assumption | (unfold cfgOk; decide)) (by assumption) (by assumption) : (advStep (⟨1, 1, 1, 1⟩ : Cfg) ((lns (⟨1, 1, 1, 1⟩ : Cfg)).toNat) ax11.1 ax11.2).1.good ∧ (advStep (⟨1, 1, 1, 1⟩ : Cfg) ((lns (⟨1, 1, 1, 1⟩ : Cfg)).toNat) ax11.1 ax11.2).2.good)
 replace h_117 : g_115 = advPt p_23 b_1 ax12.1 := h_117
 replace x_118 : MemAt l_116 p_2 q_3 ((lns (⟨1, 1, 1, 1⟩ : Cfg)).toNat) ((⟨1, 1, 1, 1⟩ : Cfg).th.toNat) ax12.2 := x_118
 have hS_121 : ax12.1.good := hS_119
 have hM_122 : ax12.2.good := hM_120
 refine K.z ?_
 refine K.blk_normal ?_
 refine K.t (K.g (K.q [.int .i64 3, .int .i64 4, .int .i64 4] (K.z (K.t ?_))))
 refine K.Unr.zero ?_
 refine K.s (K.s (K.g (K.q [.int .i64 4, .bool false] (K.z (K.t (K.f ?_))))))
 refine K.KW.exit ?_
 refine K.thn_exit ?_
 refine K.thn_exit ?_
 refine K.blk_hit ?_
 refine K.t (K.s (K.g (K.q [.pointer (some ⟨p_2, 0, none⟩)] ?_)))
 refine K.l (K.OW.gcall hS [2] [0, 1, 3, 4, 5, 6] [.pointer (some ⟨p_2, 0, none⟩), .int .i64 (-1)] (pkS_ok _ _ _ _ _ _ _ x_118 ((-1) : Int) (by first | omega | assumption | exact aft_int (by assumption) _ | exact ann_int (by assumption) _ (by first | omega | assumption)) 1 (by kernel_rfl)) ?_)
 clear hS; rintro _ _ w ⟨rfl, rfl⟩ hS
 replace hS : K.Sat w0 [l_116, g_115, gl_6, g_83, g_51, m_8, fr] w := hS
 refine K.q [.tuple #[.int .u64 1, .bool true], .int .u64 1, .bool true, .int .u64 1, .bool true] (K.z (K.t (K.s (K.g (K.q [.bool true, .bool true, .pointer (some ⟨p_15, 0, none⟩)] ?_)))))
 refine K.l (K.OW.gcall hS [4] [0, 1, 2, 3, 5, 6] [.pointer (some ⟨p_15, 0, none⟩)] (entDone_ok _ _ _ ax4.1 _ h_53) ?_)
 clear hS; rintro _ _ w ⟨rfl, rfl⟩ hS
 replace hS : K.Sat w0 [g_51, l_116, g_115, gl_6, g_83, m_8, fr] w := hS
 cases hb_123 : ax4.1.done
 ·cases (hb_123.symm.trans (show ax4.1.done = true from by kernel_rfl))
 ·
  refine K.q [.bool true, .bool true, .pointer (some ⟨p_19, 0, none⟩)] ?_
  refine K.l (K.OW.gcall hS [4] [0, 1, 2, 3, 5, 6] [.pointer (some ⟨p_19, 0, none⟩)] (advDone_ok _ _ _ ax8.1 _ h_85) ?_)
  clear hS; rintro _ _ w ⟨rfl, rfl⟩ hS
  replace hS : K.Sat w0 [g_83, g_51, l_116, g_115, gl_6, m_8, fr] w := hS
  cases hb_124 : ax8.1.done
  ·cases (hb_124.symm.trans (show ax8.1.done = true from by kernel_rfl))
  ·
   refine K.q [.bool true, .bool true, .pointer (some ⟨p_19, 0, none⟩)] ?_
   refine K.l (K.OW.gcall hS [0] [1, 2, 3, 4, 5, 6] [.pointer (some ⟨p_19, 0, none⟩)] (advMoved_ok _ _ _ ax8.1 _ h_85) ?_)
   clear hS; rintro _ _ w ⟨rfl, rfl⟩ hS
   replace hS : K.Sat w0 [g_83, g_51, l_116, g_115, gl_6, m_8, fr] w := hS
   cases hb_125 : ax8.1.moved
   ·cases (hb_125.symm.trans (show ax8.1.moved = true from by kernel_rfl))
   ·
    refine K.q [.bool true, .bool true, .pointer (some ⟨p_23, 0, none⟩)] ?_
    refine K.l (K.OW.gcall hS [3] [0, 1, 2, 4, 5, 6] [.pointer (some ⟨p_23, 0, none⟩)] (advDone_ok _ _ _ ax12.1 _ h_117) ?_)
    clear hS; rintro _ _ w ⟨rfl, rfl⟩ hS
    replace hS : K.Sat w0 [g_115, g_83, g_51, l_116, gl_6, m_8, fr] w := hS
    cases hb_126 : ax12.1.done
    ·cases (hb_126.symm.trans (show ax12.1.done = true from by kernel_rfl))
    ·
     refine K.q [.bool true, .bool true, .pointer (some ⟨p_23, 0, none⟩)] ?_
     refine K.l (K.OW.gcall hS [0] [1, 2, 3, 4, 5, 6] [.pointer (some ⟨p_23, 0, none⟩)] (advMoved_ok _ _ _ ax12.1 _ h_117) ?_)
     clear hS; rintro _ _ w ⟨rfl, rfl⟩ hS
     replace hS : K.Sat w0 [g_115, g_83, g_51, l_116, gl_6, m_8, fr] w := hS
     cases hb_127 : ax12.1.moved
     ·
      refine K.q [.bool true, .bool true, .bool true, .int .u64 1] ?_
      refine K.ye (1 : Int) (1 : Int) rfl ?_
      refine K.q [.bool true, .bool true] (K.z (K.t (K.r ?_)))
      refine ⟨.inr rfl, rfl, (.bool true), K.res1 rfl rfl, [], ?_, hS.pick [6]⟩
      exact ⟨rfl, rfl⟩
     ·cases (hb_127.symm.trans (show ax12.1.moved = false from by kernel_rfl))
end Go.Proofs.YtajkickofkeemaaGreat
