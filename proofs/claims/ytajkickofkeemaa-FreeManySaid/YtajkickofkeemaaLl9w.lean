/- The page's example of layer 9. -/
import Derived.Test.YtajkickofkeemaaFl9
import Derived.Test.YtajkickofkeemaaKn
namespace Go.Proofs.Ytajkickofkeemaa
open Go.RowKit
set_option linter.unusedVariables false
attribute [local irreducible] K.KW K.RW K.DW K.OW K.QR K.KC
def awC : Cfg := ⟨1, 2, 1, 1⟩
def aw0 : MemM := groundM (lns awC).toNat awC.th.toNat (2 + awC.th + awC.sl).toNat (rowsTo awC [0, 1] 2)
def aw1 := popStep awC (lns awC).toNat ⟨0, 0, 0, 0, -1⟩ aw0
def aw2 := popStep awC (lns awC).toNat aw1.1 aw1.2
def aw3 := popStep awC (lns awC).toNat aw2.1 aw2.2
def aw4 := pushStep awC (lns awC).toNat ⟨0, 0, 0, 0⟩ aw3.2
def aw5 := pushStep awC (lns awC).toNat aw4.1 aw4.2
def aw6 := pushStep awC (lns awC).toNat aw5.1 aw5.2
set_option maxHeartbeats 4000000 in
set_option maxRecDepth 100000 in
theorem awake09_ok (w0 : World)  :
  K.GC Try.prog w0 25 #[] [] (fun v post => v = .bool true ∧ post = []) := by
 refine K.GC.mk (n := 111) Try.func25 rfl rfl [] rfl rfl ?_
 intro fr w hS
 replace hS : K.Sat w0 [fr] w := hS
 refine K.s (K.g (K.q [.bool false] (K.z (K.t (K.s (K.g ?_))))))
 refine K.a (K.QR.bd [(0, .int .i64 1), (1, .int .i64 2), (2, .int .i64 1), (3, .int .i64 1)] [.int .i64 1, .int .i64 2, .int .i64 1, .int .i64 1] rfl rfl (by kernel_rfl)) ?_
 refine K.l (K.OW.gbs [(0, .int .i64 0), (1, .int .i64 1)] [.int .i64 0, .int .i64 1] hS (fun w => K.bs_run (P := Try.prog) w 63 3 2 _ _ Try.underlying63 (by kernel_rfl)) ?_)
 clear hS; intro w r_1 g_2 hg_3 hS
 refine K.l (K.OW.gcall hS [0] [1] [.agg #[.int .i64 1, .int .i64 2, .int .i64 1, .int .i64 1], .slice (some ⟨r_1, 0, none⟩) 2 2] (rows_ok _ (⟨1, 2, 1, 1⟩ : Cfg) (by first | assumption | (unfold cfgOk; decide)) _ _ [(0 : Int), (1 : Int)] (by first | omega | decide | (have h := rfl; omega)) _ (fun w h => K.Blk.rowE (c := cI64) 0 (L := [(0 : Int), (1 : Int)]) (h.blk 0 rfl hg_3) (fun _ => rfl) rfl)) ?_)
 clear hS; rintro _ _ w ⟨r_4, c_5, l_6, rfl, rfl, o_7⟩ hS
 replace hS : K.Sat w0 [g_2, l_6, fr] w := hS
 refine K.l (K.OW.gcall hS [1] [0, 2] [.agg #[.int .i64 1, .int .i64 2, .int .i64 1, .int .i64 1, .slice r_4 ((rowsTo (⟨1, 2, 1, 1⟩ : Cfg) [(0 : Int), (1 : Int)] [(0 : Int), (1 : Int)].length).length) c_5]] (layS_ok _ (⟨1, 2, 1, 1⟩ : Cfg) _ _ (rowsTo (⟨1, 2, 1, 1⟩ : Cfg) [(0 : Int), (1 : Int)] [(0 : Int), (1 : Int)].length) (fun j hj => (rows_good (by first | assumption | (unfold cfgOk; decide)) _ _ j hj).1) (⟨by unfold fewC cfgOk; decide, by decide⟩) _ (fun w h => K.RowE.len (K.Own.rowE pu0 (h.ownr 0 rfl o_7) rfl (fun _ => rfl)) rfl)) ?_)
 clear hS; rintro _ _ w ⟨b_8, p_9, q_10, r_11, u_12, _, _, gl_13, l_14, m_15, rfl, rfl, hl_16, x_17, y_18, rfl, rfl, hf_19, hp_20⟩ hS
 replace hS : K.Sat w0 [l_6, gl_13, l_14, m_15, g_2, fr] w := hS
 replace x_17 : MemAt l_14 p_9 q_10 ((lns (⟨1, 2, 1, 1⟩ : Cfg)).toNat) ((⟨1, 2, 1, 1⟩ : Cfg).th.toNat) aw0 := x_17
 have hM : aw0.good := ground_good (fun j hj => (rows_good (by unfold cfgOk; decide) _ _ j hj).2)
 refine K.q [.tuple #[.pointer (some ⟨b_8, 0, none⟩), .pointer (some ⟨p_9, 0, none⟩), .pointer (some ⟨r_11, 0, none⟩), .bool true], .pointer (some ⟨b_8, 0, none⟩), .pointer (some ⟨p_9, 0, none⟩), .pointer (some ⟨r_11, 0, none⟩), .bool true, .pointer (some ⟨b_8, 0, none⟩), .pointer (some ⟨p_9, 0, none⟩), .pointer (some ⟨r_11, 0, none⟩), .bool true] (K.z (K.t (K.s (K.g (K.q [.pointer (some ⟨b_8, 0, none⟩)] ?_)))))
 refine K.l (K.OW.gcall hS [] [0, 1, 2, 3, 4, 5] [.pointer (some ⟨b_8, 0, none⟩), .int .i64 0] (newPop_ok _ _ (0 : Int)) ?_)
 clear hS; rintro _ _ w ⟨p_21, g_22, rfl, rfl, h_23⟩ hS
 replace hS : K.Sat w0 [g_22, l_6, gl_13, l_14, m_15, g_2, fr] w := hS
 have hS_24 : PopS.good (⟨0, 0, 0, 0, -1⟩ : PopS) := popInit (by omega)
 refine K.q [.pointer (some ⟨b_8, 0, none⟩)] ?_
 refine K.l (K.OW.gcall hS [] [0, 1, 2, 3, 4, 5, 6] [.pointer (some ⟨b_8, 0, none⟩), .int .i64 0, .int .i64 0] (newPush_ok _ _ (0 : Int) (0 : Int)) ?_)
 clear hS; rintro _ _ w ⟨p_25, g_26, rfl, rfl, h_27⟩ hS
 replace hS : K.Sat w0 [g_26, g_22, l_6, gl_13, l_14, m_15, g_2, fr] w := hS
 have hS_28 : PushS.good (⟨0, 0, 0, 0⟩ : PushS) := pushInit (by omega) (by omega)
 refine K.q [.pointer (some ⟨p_21, 0, none⟩), .pointer (some ⟨p_25, 0, none⟩)] (K.z (K.t (K.s (K.s (K.g (K.q [.int .i64 0] (K.z (K.t ?_))))))))
 refine K.KW.block ?_
 refine K.KW.unr 3 ?_
 refine K.Unr.succ ?_
 refine K.s (K.s (K.g (K.q [.int .i64 0, .bool true] (K.z (K.t (K.h (K.k (K.t (K.s ?_)))))))))
 refine K.KW.block ?_
 refine K.g (K.q [.pointer (some ⟨p_21, 0, none⟩), .pointer (some ⟨p_9, 0, none⟩)] ?_)
 refine K.l (K.OW.gcall hS [1, 3, 4] [0, 2, 5, 6, 7] [.pointer (some ⟨p_21, 0, none⟩), .pointer (some ⟨p_9, 0, none⟩)] (popStep_ok _ _ _ _ _ _ _ (⟨1, 2, 1, 1⟩ : Cfg) (by first | assumption | (unfold cfgOk; decide)) (⟨0, 0, 0, 0, -1⟩ : PopS) _ _ _ _ h_23 hl_16 x_17 (by assumption) (by assumption)) ?_)
 clear hS; rintro _ _ w ⟨g_29, l_30, rfl, rfl, h_31, x_32⟩ hS
 replace hS : K.Sat w0 [g_29, gl_13, l_30, g_26, l_6, m_15, g_2, fr] w := hS
 obtain ⟨hS_33, hM_34⟩ := (popStep_good (by assumption) (by assumption) : (popStep (⟨1, 2, 1, 1⟩ : Cfg) ((lns (⟨1, 2, 1, 1⟩ : Cfg)).toNat) (⟨0, 0, 0, 0, -1⟩ : PopS) aw0).1.good ∧ (popStep (⟨1, 2, 1, 1⟩ : Cfg) ((lns (⟨1, 2, 1, 1⟩ : Cfg)).toNat) (⟨0, 0, 0, 0, -1⟩ : PopS) aw0).2.good)
 replace h_31 : g_29 = popPt p_21 b_8 aw1.1 := h_31
 replace x_32 : MemAt l_30 p_9 q_10 ((lns (⟨1, 2, 1, 1⟩ : Cfg)).toNat) ((⟨1, 2, 1, 1⟩ : Cfg).th.toNat) aw1.2 := x_32
 have hS_35 : aw1.1.good := hS_33
 have hM_36 : aw1.2.good := hM_34
 refine K.z ?_
 refine K.blk_normal ?_
 refine K.t (K.g (K.q [.int .i64 0, .int .i64 1, .int .i64 1] (K.z (K.t ?_))))
 refine K.Unr.succ ?_
 refine K.s (K.s (K.g (K.q [.int .i64 1, .bool true] (K.z (K.t (K.h (K.k (K.t (K.s ?_)))))))))
 refine K.KW.block ?_
 refine K.g (K.q [.pointer (some ⟨p_21, 0, none⟩), .pointer (some ⟨p_9, 0, none⟩)] ?_)
 refine K.l (K.OW.gcall hS [0, 1, 2] [3, 4, 5, 6, 7] [.pointer (some ⟨p_21, 0, none⟩), .pointer (some ⟨p_9, 0, none⟩)] (popStep_ok _ _ _ _ _ _ _ (⟨1, 2, 1, 1⟩ : Cfg) (by first | assumption | (unfold cfgOk; decide)) aw1.1 _ _ _ _ h_31 hl_16 x_32 (by assumption) (by assumption)) ?_)
 clear hS; rintro _ _ w ⟨g_37, l_38, rfl, rfl, h_39, x_40⟩ hS
 replace hS : K.Sat w0 [g_37, gl_13, l_38, g_26, l_6, m_15, g_2, fr] w := hS
 obtain ⟨hS_41, hM_42⟩ := (popStep_good (by assumption) (by assumption) : (popStep (⟨1, 2, 1, 1⟩ : Cfg) ((lns (⟨1, 2, 1, 1⟩ : Cfg)).toNat) aw1.1 aw1.2).1.good ∧ (popStep (⟨1, 2, 1, 1⟩ : Cfg) ((lns (⟨1, 2, 1, 1⟩ : Cfg)).toNat) aw1.1 aw1.2).2.good)
 replace h_39 : g_37 = popPt p_21 b_8 aw2.1 := h_39
 replace x_40 : MemAt l_38 p_9 q_10 ((lns (⟨1, 2, 1, 1⟩ : Cfg)).toNat) ((⟨1, 2, 1, 1⟩ : Cfg).th.toNat) aw2.2 := x_40
 have hS_43 : aw2.1.good := hS_41
 have hM_44 : aw2.2.good := hM_42
 refine K.z ?_
 refine K.blk_normal ?_
 refine K.t (K.g (K.q [.int .i64 1, .int .i64 2, .int .i64 2] (K.z (K.t ?_))))
 refine K.Unr.succ ?_
 refine K.s (K.s (K.g (K.q [.int .i64 2, .bool true] (K.z (K.t (K.h (K.k (K.t (K.s ?_)))))))))
 refine K.KW.block ?_
 refine K.g (K.q [.pointer (some ⟨p_21, 0, none⟩), .pointer (some ⟨p_9, 0, none⟩)] ?_)
 refine K.l (K.OW.gcall hS [0, 1, 2] [3, 4, 5, 6, 7] [.pointer (some ⟨p_21, 0, none⟩), .pointer (some ⟨p_9, 0, none⟩)] (popStep_ok _ _ _ _ _ _ _ (⟨1, 2, 1, 1⟩ : Cfg) (by first | assumption | (unfold cfgOk; decide)) aw2.1 _ _ _ _ h_39 hl_16 x_40 (by assumption) (by assumption)) ?_)
 clear hS; rintro _ _ w ⟨g_45, l_46, rfl, rfl, h_47, x_48⟩ hS
 replace hS : K.Sat w0 [g_45, gl_13, l_46, g_26, l_6, m_15, g_2, fr] w := hS
 obtain ⟨hS_49, hM_50⟩ := (popStep_good (by assumption) (by assumption) : (popStep (⟨1, 2, 1, 1⟩ : Cfg) ((lns (⟨1, 2, 1, 1⟩ : Cfg)).toNat) aw2.1 aw2.2).1.good ∧ (popStep (⟨1, 2, 1, 1⟩ : Cfg) ((lns (⟨1, 2, 1, 1⟩ : Cfg)).toNat) aw2.1 aw2.2).2.good)
 replace h_47 : g_45 = popPt p_21 b_8 aw3.1 := h_47
 replace x_48 : MemAt l_46 p_9 q_10 ((lns (⟨1, 2, 1, 1⟩ : Cfg)).toNat) ((⟨1, 2, 1, 1⟩ : Cfg).th.toNat) aw3.2 := x_48
 have hS_51 : aw3.1.good := hS_49
 have hM_52 : aw3.2.good := hM_50
 refine K.z ?_
 refine K.blk_normal ?_
 refine K.t (K.g (K.q [.int .i64 2, .int .i64 3, .int .i64 3] (K.z (K.t ?_))))
 refine K.Unr.zero ?_
 refine K.s (K.s (K.g (K.q [.int .i64 3, .bool false] (K.z (K.t (K.f ?_))))))
 refine K.KW.exit ?_
 refine K.thn_exit ?_
 refine K.thn_exit ?_
 refine K.blk_hit ?_
 refine K.t (K.s (K.g (K.q [.pointer (some ⟨b_8, 0, none⟩), .pointer (some ⟨p_9, 0, none⟩)] ?_)))
 refine K.l (K.OW.gcall hS [1, 2] [0, 3, 4, 5, 6, 7] [.pointer (some ⟨b_8, 0, none⟩), .pointer (some ⟨p_9, 0, none⟩)] (listB_ok _ _ _ _ _ _ (⟨1, 2, 1, 1⟩ : Cfg) (by first | assumption | (unfold cfgOk; decide)) (by first | omega | decide) aw3.2 _ _ hl_16 x_48 (by assumption) (by kernel_rfl) true (by kernel_rfl)) ?_)
 clear hS; rintro _ _ w ⟨r_53, c_54, l_55, rfl, rfl, o_56⟩ hS
 replace hS : K.Sat w0 [gl_13, l_46, l_55, g_45, g_26, l_6, m_15, g_2, fr] w := hS
 refine K.q [.tuple #[.slice r_53 ((listG (⟨1, 2, 1, 1⟩ : Cfg) ((lns (⟨1, 2, 1, 1⟩ : Cfg)).toNat) aw3.2).1.length) c_54, .bool true], .slice r_53 ((listG (⟨1, 2, 1, 1⟩ : Cfg) ((lns (⟨1, 2, 1, 1⟩ : Cfg)).toNat) aw3.2).1.length) c_54, .bool true, .slice r_53 ((listG (⟨1, 2, 1, 1⟩ : Cfg) ((lns (⟨1, 2, 1, 1⟩ : Cfg)).toNat) aw3.2).1.length) c_54, .bool true] (K.z (K.t (K.s (K.s (K.g (K.q [.int .i64 0] (K.z (K.t ?_))))))))
 refine K.KW.block ?_
 refine K.KW.unr 3 ?_
 refine K.Unr.succ ?_
 refine K.s (K.s (K.g (K.q [.int .i64 0, .bool true] (K.z (K.t (K.h (K.k (K.t (K.s ?_)))))))))
 refine K.KW.block ?_
 refine K.g (K.q [.pointer (some ⟨p_25, 0, none⟩), .pointer (some ⟨p_9, 0, none⟩)] ?_)
 refine K.l (K.OW.gcall hS [4, 0, 1] [2, 3, 5, 6, 7, 8] [.pointer (some ⟨p_25, 0, none⟩), .pointer (some ⟨p_9, 0, none⟩)] (pushStep_ok _ _ _ _ _ _ _ (⟨1, 2, 1, 1⟩ : Cfg) (by first | assumption | (unfold cfgOk; decide)) (⟨0, 0, 0, 0⟩ : PushS) _ _ _ _ h_27 hl_16 x_48 (by assumption) (by assumption)) ?_)
 clear hS; rintro _ _ w ⟨g_57, l_58, rfl, rfl, h_59, x_60⟩ hS
 replace hS : K.Sat w0 [g_57, gl_13, l_58, l_55, g_45, l_6, m_15, g_2, fr] w := hS
 obtain ⟨hS_61, hM_62⟩ := (pushStep_good (by assumption) (by assumption) : (pushStep (⟨1, 2, 1, 1⟩ : Cfg) ((lns (⟨1, 2, 1, 1⟩ : Cfg)).toNat) (⟨0, 0, 0, 0⟩ : PushS) aw3.2).1.good ∧ (pushStep (⟨1, 2, 1, 1⟩ : Cfg) ((lns (⟨1, 2, 1, 1⟩ : Cfg)).toNat) (⟨0, 0, 0, 0⟩ : PushS) aw3.2).2.good)
 replace h_59 : g_57 = pushPt p_25 b_8 aw4.1 := h_59
 replace x_60 : MemAt l_58 p_9 q_10 ((lns (⟨1, 2, 1, 1⟩ : Cfg)).toNat) ((⟨1, 2, 1, 1⟩ : Cfg).th.toNat) aw4.2 := x_60
 have hS_63 : aw4.1.good := hS_61
 have hM_64 : aw4.2.good := hM_62
 refine K.z ?_
 refine K.blk_normal ?_
 refine K.t (K.g (K.q [.int .i64 0, .int .i64 1, .int .i64 1] (K.z (K.t ?_))))
 refine K.Unr.succ ?_
 refine K.s (K.s (K.g (K.q [.int .i64 1, .bool true] (K.z (K.t (K.h (K.k (K.t (K.s ?_)))))))))
 refine K.KW.block ?_
 refine K.g (K.q [.pointer (some ⟨p_25, 0, none⟩), .pointer (some ⟨p_9, 0, none⟩)] ?_)
 refine K.l (K.OW.gcall hS [0, 1, 2] [3, 4, 5, 6, 7, 8] [.pointer (some ⟨p_25, 0, none⟩), .pointer (some ⟨p_9, 0, none⟩)] (pushStep_ok _ _ _ _ _ _ _ (⟨1, 2, 1, 1⟩ : Cfg) (by first | assumption | (unfold cfgOk; decide)) aw4.1 _ _ _ _ h_59 hl_16 x_60 (by assumption) (by assumption)) ?_)
 clear hS; rintro _ _ w ⟨g_65, l_66, rfl, rfl, h_67, x_68⟩ hS
 replace hS : K.Sat w0 [g_65, gl_13, l_66, l_55, g_45, l_6, m_15, g_2, fr] w := hS
 obtain ⟨hS_69, hM_70⟩ := (pushStep_good (by assumption) (by assumption) : (pushStep (⟨1, 2, 1, 1⟩ : Cfg) ((lns (⟨1, 2, 1, 1⟩ : Cfg)).toNat) aw4.1 aw4.2).1.good ∧ (pushStep (⟨1, 2, 1, 1⟩ : Cfg) ((lns (⟨1, 2, 1, 1⟩ : Cfg)).toNat) aw4.1 aw4.2).2.good)
 replace h_67 : g_65 = pushPt p_25 b_8 aw5.1 := h_67
 replace x_68 : MemAt l_66 p_9 q_10 ((lns (⟨1, 2, 1, 1⟩ : Cfg)).toNat) ((⟨1, 2, 1, 1⟩ : Cfg).th.toNat) aw5.2 := x_68
 have hS_71 : aw5.1.good := hS_69
 have hM_72 : aw5.2.good := hM_70
 refine K.z ?_
 refine K.blk_normal ?_
 refine K.t (K.g (K.q [.int .i64 1, .int .i64 2, .int .i64 2] (K.z (K.t ?_))))
 refine K.Unr.succ ?_
 refine K.s (K.s (K.g (K.q [.int .i64 2, .bool true] (K.z (K.t (K.h (K.k (K.t (K.s ?_)))))))))
 refine K.KW.block ?_
 refine K.g (K.q [.pointer (some ⟨p_25, 0, none⟩), .pointer (some ⟨p_9, 0, none⟩)] ?_)
 refine K.l (K.OW.gcall hS [0, 1, 2] [3, 4, 5, 6, 7, 8] [.pointer (some ⟨p_25, 0, none⟩), .pointer (some ⟨p_9, 0, none⟩)] (pushStep_ok _ _ _ _ _ _ _ (⟨1, 2, 1, 1⟩ : Cfg) (by first | assumption | (unfold cfgOk; decide)) aw5.1 _ _ _ _ h_67 hl_16 x_68 (by assumption) (by assumption)) ?_)
 clear hS; rintro _ _ w ⟨g_73, l_74, rfl, rfl, h_75, x_76⟩ hS
 replace hS : K.Sat w0 [g_73, gl_13, l_74, l_55, g_45, l_6, m_15, g_2, fr] w := hS
 obtain ⟨hS_77, hM_78⟩ := (pushStep_good (by assumption) (by assumption) : (pushStep (⟨1, 2, 1, 1⟩ : Cfg) ((lns (⟨1, 2, 1, 1⟩ : Cfg)).toNat) aw5.1 aw5.2).1.good ∧ (pushStep (⟨1, 2, 1, 1⟩ : Cfg) ((lns (⟨1, 2, 1, 1⟩ : Cfg)).toNat) aw5.1 aw5.2).2.good)
 replace h_75 : g_73 = pushPt p_25 b_8 aw6.1 := h_75
 replace x_76 : MemAt l_74 p_9 q_10 ((lns (⟨1, 2, 1, 1⟩ : Cfg)).toNat) ((⟨1, 2, 1, 1⟩ : Cfg).th.toNat) aw6.2 := x_76
 have hS_79 : aw6.1.good := hS_77
 have hM_80 : aw6.2.good := hM_78
 refine K.z ?_
 refine K.blk_normal ?_
 refine K.t (K.g (K.q [.int .i64 2, .int .i64 3, .int .i64 3] (K.z (K.t ?_))))
 refine K.Unr.zero ?_
 refine K.s (K.s (K.g (K.q [.int .i64 3, .bool false] (K.z (K.t (K.f ?_))))))
 refine K.KW.exit ?_
 refine K.thn_exit ?_
 refine K.thn_exit ?_
 refine K.blk_hit ?_
 refine K.t (K.s (K.g (K.q [.pointer (some ⟨b_8, 0, none⟩), .pointer (some ⟨p_9, 0, none⟩)] ?_)))
 refine K.l (K.OW.gcall hS [1, 2] [0, 3, 4, 5, 6, 7, 8] [.pointer (some ⟨b_8, 0, none⟩), .pointer (some ⟨p_9, 0, none⟩)] (listB_ok _ _ _ _ _ _ (⟨1, 2, 1, 1⟩ : Cfg) (by first | assumption | (unfold cfgOk; decide)) (by first | omega | decide) aw6.2 _ _ hl_16 x_76 (by assumption) (by kernel_rfl) true (by kernel_rfl)) ?_)
 clear hS; rintro _ _ w ⟨r_81, c_82, l_83, rfl, rfl, o_84⟩ hS
 replace hS : K.Sat w0 [gl_13, l_74, l_83, g_73, l_55, g_45, l_6, m_15, g_2, fr] w := hS
 refine K.q [.tuple #[.slice r_81 ((listG (⟨1, 2, 1, 1⟩ : Cfg) ((lns (⟨1, 2, 1, 1⟩ : Cfg)).toNat) aw6.2).1.length) c_82, .bool true], .slice r_81 ((listG (⟨1, 2, 1, 1⟩ : Cfg) ((lns (⟨1, 2, 1, 1⟩ : Cfg)).toNat) aw6.2).1.length) c_82, .bool true, .slice r_81 ((listG (⟨1, 2, 1, 1⟩ : Cfg) ((lns (⟨1, 2, 1, 1⟩ : Cfg)).toNat) aw6.2).1.length) c_82, .bool true] (K.z (K.t (K.s ?_)))
 have hpl : ((aw6.2.pass.length : Nat) : Int) = 5 := by kernel_rfl
 refine K.g (K.q [.pointer (some ⟨p_9, 0, none⟩)] ?_)
 refine K.l (K.OW.gcall hS [1] [0, 2, 3, 4, 5, 6, 7, 8, 9] [.pointer (some ⟨p_9, 0, none⟩), .int .i64 (-2)] (mPeekG_ok _ _ _ _ _ _ _ x_76 ((-2) : Int) (by first | omega | exact aft_int (by assumption) _ | exact ann_int (by assumption) _ (by omega)) (by first | omega | (rw [aft_in (by assumption) (by omega)]; omega))) ?_)
 clear hS; rintro _ _ w ⟨rfl, rfl⟩ hS
 replace hS : K.Sat w0 [l_74, gl_13, l_83, g_73, l_55, g_45, l_6, m_15, g_2, fr] w := hS
 have hw_85 : isW ((aw6.2.peek ((lns (⟨1, 2, 1, 1⟩ : Cfg)).toNat) ((-2) : Int)).getD 0) := peek0_W (by assumption)
 refine K.q [.tuple #[.int .u64 ((aw6.2.peek ((lns (⟨1, 2, 1, 1⟩ : Cfg)).toNat) ((-2) : Int)).getD 0), .bool true], .int .u64 ((aw6.2.peek ((lns (⟨1, 2, 1, 1⟩ : Cfg)).toNat) ((-2) : Int)).getD 0), .bool true, .int .u64 ((aw6.2.peek ((lns (⟨1, 2, 1, 1⟩ : Cfg)).toNat) ((-2) : Int)).getD 0), .bool true] (K.z (K.t (K.s ?_)))
 have hl_86 : (listG (⟨1, 2, 1, 1⟩ : Cfg) ((lns (⟨1, 2, 1, 1⟩ : Cfg)).toNat) aw3.2).1.length = 1 := by kernel_rfl
 obtain ⟨b_87, rfl⟩ := o_56.some_ (by have := o_56.le; omega)
 have hl_89 : (listG (⟨1, 2, 1, 1⟩ : Cfg) ((lns (⟨1, 2, 1, 1⟩ : Cfg)).toNat) aw6.2).1.length = 2 := by kernel_rfl
 obtain ⟨b_90, rfl⟩ := o_84.some_ (by have := o_84.le; omega)
 refine K.g (K.q [.bool true, .bool true, .pointer (some ⟨p_21, 0, none⟩)] ?_)
 refine K.l (K.OW.gcall hS [5] [0, 1, 2, 3, 4, 6, 7, 8, 9] [.pointer (some ⟨p_21, 0, none⟩)] (popDoneK_ok _ _ _ aw3.1 _ h_47 (by kernel_rfl)) ?_)
 clear hS; rintro _ _ w ⟨rfl, rfl⟩ hS
 replace hS : K.Sat w0 [g_45, l_74, gl_13, l_83, g_73, l_55, l_6, m_15, g_2, fr] w := hS
 refine K.q [.bool true, .bool true, .pointer (some ⟨p_21, 0, none⟩)] ?_
 refine K.l (K.OW.gcall hS [0] [1, 2, 3, 4, 5, 6, 7, 8, 9] [.pointer (some ⟨p_21, 0, none⟩)] (popSlot_ok _ _ _ aw3.1 _ h_47) ?_)
 clear hS; rintro _ _ w ⟨rfl, rfl⟩ hS
 replace hS : K.Sat w0 [g_45, l_74, gl_13, l_83, g_73, l_55, l_6, m_15, g_2, fr] w := hS
 refine K.ye (aw3.1.slot : Int) (0 : Int) (by kernel_rfl) ?_
 refine K.q [.bool true, .bool true, .bool true, .bool true, .bool true, .slice (some ⟨b_87, 0, none⟩) ((listG (⟨1, 2, 1, 1⟩ : Cfg) ((lns (⟨1, 2, 1, 1⟩ : Cfg)).toNat) aw3.2).1.length) c_54] ?_
 refine K.a (K.QR.len (P := Try.prog) rfl rfl Try.underlying63) ?_
 refine K.ye ((((listG (⟨1, 2, 1, 1⟩ : Cfg) ((lns (⟨1, 2, 1, 1⟩ : Cfg)).toNat) aw3.2).1.length : Nat) : Int) : Int) (1 : Int) (by kernel_rfl) ?_
 refine K.q [.bool true, .bool true, .slice (some ⟨b_87, 0, none⟩) ((listG (⟨1, 2, 1, 1⟩ : Cfg) ((lns (⟨1, 2, 1, 1⟩ : Cfg)).toNat) aw3.2).1.length) c_54] ?_
 refine K.a (K.QR.ix 0 1 rfl rfl rfl Try.underlying63 (by kernel_rfl) (by omega) (by first | (simp; done) | omega | (simp; omega))) ?_
 refine K.d (.int .i64 (((listG (⟨1, 2, 1, 1⟩ : Cfg) ((lns (⟨1, 2, 1, 1⟩ : Cfg)).toNat) aw3.2).1).getD 0 0)) (K.Own.atS (c := cI64) (d := 0) (fun _ => rfl) (hS.ownr 5 rfl o_56) rfl 0 (by omega)) ?_
 refine K.ye (((listG (⟨1, 2, 1, 1⟩ : Cfg) ((lns (⟨1, 2, 1, 1⟩ : Cfg)).toNat) aw3.2).1).getD 0 0 : Int) (1 : Int) (by kernel_rfl) ?_
 refine K.q [.bool true, .bool true, .pointer (some ⟨p_25, 0, none⟩)] ?_
 refine K.l (K.OW.gcall hS [4] [0, 1, 2, 3, 5, 6, 7, 8, 9] [.pointer (some ⟨p_25, 0, none⟩)] (pushDoneK_ok _ _ _ aw6.1 _ h_75 (by kernel_rfl)) ?_)
 clear hS; rintro _ _ w ⟨rfl, rfl⟩ hS
 replace hS : K.Sat w0 [g_73, g_45, l_74, gl_13, l_83, l_55, l_6, m_15, g_2, fr] w := hS
 refine K.q [.bool true, .bool true, .bool true, .bool true, .bool true, .slice (some ⟨b_90, 0, none⟩) ((listG (⟨1, 2, 1, 1⟩ : Cfg) ((lns (⟨1, 2, 1, 1⟩ : Cfg)).toNat) aw6.2).1.length) c_82] ?_
 refine K.a (K.QR.len (P := Try.prog) rfl rfl Try.underlying63) ?_
 refine K.ye ((((listG (⟨1, 2, 1, 1⟩ : Cfg) ((lns (⟨1, 2, 1, 1⟩ : Cfg)).toNat) aw6.2).1.length : Nat) : Int) : Int) (2 : Int) (by kernel_rfl) ?_
 refine K.q [.bool true, .bool true, .slice (some ⟨b_90, 0, none⟩) ((listG (⟨1, 2, 1, 1⟩ : Cfg) ((lns (⟨1, 2, 1, 1⟩ : Cfg)).toNat) aw6.2).1.length) c_82] ?_
 refine K.a (K.QR.ix 0 1 rfl rfl rfl Try.underlying63 (by kernel_rfl) (by omega) (by first | (simp; done) | omega | (simp; omega))) ?_
 refine K.d (.int .i64 (((listG (⟨1, 2, 1, 1⟩ : Cfg) ((lns (⟨1, 2, 1, 1⟩ : Cfg)).toNat) aw6.2).1).getD 0 0)) (K.Own.atS (c := cI64) (d := 0) (fun _ => rfl) (hS.ownr 4 rfl o_84) rfl 0 (by omega)) ?_
 refine K.ye (((listG (⟨1, 2, 1, 1⟩ : Cfg) ((lns (⟨1, 2, 1, 1⟩ : Cfg)).toNat) aw6.2).1).getD 0 0 : Int) (0 : Int) (by kernel_rfl) ?_
 refine K.q [.bool true, .bool true, .slice (some ⟨b_90, 0, none⟩) ((listG (⟨1, 2, 1, 1⟩ : Cfg) ((lns (⟨1, 2, 1, 1⟩ : Cfg)).toNat) aw6.2).1.length) c_82] ?_
 refine K.a (K.QR.ix 1 1 rfl rfl rfl Try.underlying63 (by kernel_rfl) (by omega) (by first | (simp; done) | omega | (simp; omega))) ?_
 refine K.d (.int .i64 (((listG (⟨1, 2, 1, 1⟩ : Cfg) ((lns (⟨1, 2, 1, 1⟩ : Cfg)).toNat) aw6.2).1).getD 1 0)) (K.Own.atS (c := cI64) (d := 0) (fun _ => rfl) (hS.ownr 4 rfl o_84) rfl 1 (by omega)) ?_
 refine K.ye (((listG (⟨1, 2, 1, 1⟩ : Cfg) ((lns (⟨1, 2, 1, 1⟩ : Cfg)).toNat) aw6.2).1).getD 1 0 : Int) (1 : Int) (by kernel_rfl) ?_
 refine K.q [.bool true, .bool true, .int .u64 ((aw6.2.peek ((lns (⟨1, 2, 1, 1⟩ : Cfg)).toNat) ((-2) : Int)).getD 0)] ?_
 refine K.ye (((aw6.2.peek ((lns (⟨1, 2, 1, 1⟩ : Cfg)).toNat) ((-2) : Int)).getD 0) : Int) (8589934593 : Int) (by kernel_rfl) ?_
 refine K.q [.bool true, .bool true] (K.z (K.t (K.r ?_)))
 refine ⟨.inr rfl, rfl, (.bool true), K.res1 rfl rfl, [], ?_, hS.pick [9]⟩
 exact ⟨rfl, rfl⟩
end Go.Proofs.Ytajkickofkeemaa
