import Derived.Test.YtnehocjmgnhhhaaDoorFpt
import Derived.Test.YtnehocjmgnhhhaaDoorFrt3
import Derived.Test.YtnehocjmgnhhhaaDoorFra
/- The statement ReportTexts. -/
namespace Go.Proofs.YtnehocjmgnhhhaaDoor
open Go.RowKit
set_option linter.unusedVariables false
attribute [local irreducible] K.KW K.RW K.DW K.OW K.QR K.KC
set_option maxHeartbeats 4000000 in
set_option maxRecDepth 100000 in
theorem lawrt_ok (w0 : World) (l : List UInt8) :
    K.GC Tryd.prog w0 6 #[.string (K.sb l)] [] (fun v post => v = .bool true) := by
  refine K.GC.mk (n := 41) Tryd.func6 rfl rfl [.string (K.sb l)] rfl rfl ?_
  intro fr w hS
  replace hS : K.Sat w0 [fr] w := hS
  refine K.KW.seq ?_
  -- 0 :79
  refine K.KW.region ?_
  refine K.RW.qs [.bool false] (by kernel_rfl) ?_
  refine K.RW.nil ?_
  refine K.thn_normal ?_
  refine K.KW.seq ?_
  refine K.KW.seq ?_
  -- 1 :80
  refine K.KW.region ?_
  refine K.RW.qs [.string (K.sb l)] (by kernel_rfl) ?_
  refine K.RW.q rfl rfl (K.QR.sLen (xs := l) rfl rfl Tryd.underlying9) ?_
  by_cases h_1 : (((l.length : Nat) : Int) : Int) > (1000 : Int)
  ·  -- yes
    refine K.RW.q rfl rfl (K.QR.nice (v := .bool (decide ((((l.length : Nat) : Int) : Int) > (1000 : Int)))) (by kernel_rfl) (congrArg Value.bool (decide_eq_true h_1))) ?_
    refine K.RW.nil ?_
    refine K.thn_normal ?_
    refine K.KW.ifT rfl ?_
    refine K.KW.seq ?_
    -- 2 :81
    refine K.KW.region ?_
    refine K.RW.l rfl (K.OW.gcall hS [] [0] [] (awake29_ok _) ?_)
    clear hS; rintro _ _ w ⟨rfl, rfl⟩ hS
    replace hS : K.Sat w0 [fr] w := hS
    refine K.RW.qs [.bool true] (by kernel_rfl) ?_
    refine K.RW.nil ?_
    refine K.thn_normal ?_
    refine K.KW.ret ?_
    refine K.thn_ret ?_
    refine ⟨.inr rfl, rfl, (.bool true), K.res1 rfl rfl, [], ?_, hS.pick [0]⟩
    exact rfl
  ·  -- no
    refine K.RW.q rfl rfl (K.QR.nice (v := .bool (decide ((((l.length : Nat) : Int) : Int) > (1000 : Int)))) (by kernel_rfl) (congrArg Value.bool (decide_eq_false h_1))) ?_
    refine K.RW.nil ?_
    refine K.thn_normal ?_
    refine K.KW.ifF rfl ?_
    refine K.KW.skip ?_
    refine K.thn_normal ?_
    refine K.KW.seq ?_
    -- 3 :83
    refine K.KW.region ?_
    refine K.RW.qs [.string (K.sb l)] (by kernel_rfl) ?_
    refine K.RW.l rfl (K.OW.gcall hS [] [0] [.string (K.sb l)] (rstate_ok _ l (by omega) (fun S h => (rs_some h).2.2 ▸ stP_few (by omega))) ?_)
    clear hS; rintro _ _ w (⟨S_2, a1_3, a2_4, a3_5, c1_6, c2_7, c3_8, g1_9, g2_10, g3_11, h_12, hr_13, rfl, rfl, o1_14, o2_15, o3_16⟩ | ⟨h_17, rfl, rfl⟩ | ⟨S_18, h_19, hr_20, rfl, rfl⟩) hS
    ·
      replace hS : K.Sat w0 [g1_9, g2_10, g3_11, fr] w := hS
      refine K.RW.qs [.tuple #[.agg #[.slice a1_3 S_2.q.length c1_6, .slice a2_4 S_2.s.length c2_7, .slice a3_5 S_2.m.length c3_8], .int .i64 0], .agg #[.slice a1_3 S_2.q.length c1_6, .slice a2_4 S_2.s.length c2_7, .slice a3_5 S_2.m.length c3_8], .int .i64 0] (by kernel_rfl) ?_
      refine K.RW.l rfl (K.OW.gnew 46 [.slice none 0 0, .slice none 0 0, .slice none 0 0] hS ?_)
      clear hS; intro w r_21 g_22 hg_23 hS
      refine K.RW.l rfl (K.OW.gst 0 [.slice a1_3 S_2.q.length c1_6, .slice a2_4 S_2.s.length c2_7, .slice a3_5 S_2.m.length c3_8] [.slice a1_3 S_2.q.length c1_6, .slice a2_4 S_2.s.length c2_7, .slice a3_5 S_2.m.length c3_8] hS hg_23 ?_)
      clear hS; intro w g_24 hg_25 hS
      replace hS : K.Sat w0 [g_24, g1_9, g2_10, g3_11, fr] w := hS
      refine K.RW.qs [.int .i64 0] (by kernel_rfl) ?_
      refine K.RW.nil ?_
      refine K.thn_normal ?_
      refine K.KW.seq ?_
      -- 4 :84
      refine K.KW.region ?_
      refine K.RW.qs [.string (K.sb l)] (by kernel_rfl) ?_
      refine K.RW.l rfl (K.OW.gcall hS [] [0, 1, 2, 3, 4] [.string (K.sb l)] (rrst_ok _ l (by omega)) ?_)
      clear hS; rintro _ _ w (⟨S_26, a1_27, a2_28, a3_29, c1_30, c2_31, c3_32, g1_33, g2_34, g3_35, hS_36, h4_37, h_38, hr_39, rfl, rfl, o1_40, o2_41, o3_42⟩ | ⟨h_43, rfl, rfl⟩ | ⟨h4_44, h_45, hr_46, rfl, rfl⟩) hS
      ·
        replace hS : K.Sat w0 [g1_33, g2_34, g3_35, g_24, g1_9, g2_10, g3_11, fr] w := hS
        refine K.RW.qs [.tuple #[.agg #[.slice a1_27 S_26.q.length c1_30, .slice a2_28 S_26.s.length c2_31, .slice a3_29 S_26.m.length c3_32], .int .i64 0], .agg #[.slice a1_27 S_26.q.length c1_30, .slice a2_28 S_26.s.length c2_31, .slice a3_29 S_26.m.length c3_32], .int .i64 0] (by kernel_rfl) ?_
        refine K.RW.l rfl (K.OW.gnew 46 [.slice none 0 0, .slice none 0 0, .slice none 0 0] hS ?_)
        clear hS; intro w r_47 g_48 hg_49 hS
        refine K.RW.l rfl (K.OW.gst 0 [.slice a1_27 S_26.q.length c1_30, .slice a2_28 S_26.s.length c2_31, .slice a3_29 S_26.m.length c3_32] [.slice a1_27 S_26.q.length c1_30, .slice a2_28 S_26.s.length c2_31, .slice a3_29 S_26.m.length c3_32] hS hg_49 ?_)
        clear hS; intro w g_50 hg_51 hS
        replace hS : K.Sat w0 [g_50, g1_33, g2_34, g3_35, g_24, g1_9, g2_10, g3_11, fr] w := hS
        refine K.RW.qs [.int .i64 0] (by kernel_rfl) ?_
        refine K.RW.nil ?_
        refine K.thn_normal ?_
        refine K.KW.seq ?_
        refine K.KW.seq ?_
        -- 5 :85
        have hfw : S_2.few := (rs_some h_12).2.2 ▸ stP_few (by omega)
        have hfw1 := hfw.1
        have hfw2 := hfw.2.1
        have hfw3 := hfw.2.2
        have hTS : S_26 = S_2 := hS_36.trans (rs_some h_12).2.2
        refine K.KW.region ?_
        refine K.RW.qs [.int .i64 0, .int .i64 0, .bool false, .bool false] (by kernel_rfl) ?_
        refine K.RW.q rfl (by kernel_rfl) (K.QR.ldN [.slice a1_3 S_2.q.length c1_6, .slice a2_4 S_2.s.length c2_7, .slice a3_5 S_2.m.length c3_8] rfl rfl (by kernel_rfl) (by kernel_rfl) (K.cells (K.cl ((hS.blk 4 rfl hg_25).cell rfl) (K.cl ((hS.blk 4 rfl hg_25).cell rfl) (K.cl ((hS.blk 4 rfl hg_25).cell rfl) K.cl0))))) ?_
        refine K.RW.q rfl (by kernel_rfl) (K.QR.ldN [.slice a1_27 S_26.q.length c1_30, .slice a2_28 S_26.s.length c2_31, .slice a3_29 S_26.m.length c3_32] rfl rfl (by kernel_rfl) (by kernel_rfl) (K.cells (K.cl ((hS.blk 0 rfl hg_51).cell rfl) (K.cl ((hS.blk 0 rfl hg_51).cell rfl) (K.cl ((hS.blk 0 rfl hg_51).cell rfl) K.cl0))))) ?_
        refine K.RW.l (by kernel_rfl) (K.OW.kcall hS [.agg #[.slice a1_3 S_2.q.length c1_6, .slice a2_4 S_2.s.length c2_7, .slice a3_5 S_2.m.length c3_8], .agg #[.slice a1_27 S_26.q.length c1_30, .slice a2_28 S_26.s.length c2_31, .slice a3_29 S_26.m.length c3_32]] (same8_ok _ _ _ _ _ _ _ _ _ _ _ _ S_2.q S_2.s S_26.q S_26.s S_2.m S_26.m _ (by first | omega | decide) (by first | omega | decide) (by first | omega | decide) (K.Own.rowE 0 (hS.ownr 5 rfl o1_14) rfl (fun _ => rfl)) (K.Own.rowE 0 (hS.ownr 6 rfl o2_15) rfl (fun _ => rfl)) (K.Own.rowE p0 (hS.ownr 7 rfl o3_16) rfl (fun _ => rfl)) (K.Own.rowE 0 (hS.ownr 1 rfl o1_40) rfl (fun _ => rfl)) (K.Own.rowE 0 (hS.ownr 2 rfl o2_41) rfl (fun _ => rfl)) (K.Own.rowE p0 (hS.ownr 3 rfl o3_42) rfl (fun _ => rfl))) ?_)
        rintro _ w ⟨rfl, c_52⟩
        replace hS := hS.no c_52
        have hb_53 : decide (S_2.q = S_26.q ∧ S_2.s = S_26.s ∧ S_2.m = S_26.m) = true := same_t hTS
        rw [hb_53]
        refine K.RW.qs [.bool false, .bool false] (by kernel_rfl) ?_
        refine K.RW.nil ?_
        refine K.thn_normal ?_
        refine K.KW.ifF rfl ?_
        refine K.KW.skip ?_
        refine K.thn_normal ?_
        refine K.KW.seq ?_
        -- 7 :88
        refine K.KW.region ?_
        refine K.RW.l rfl (K.OW.gcall hS [] [0, 1, 2, 3, 4, 5, 6, 7, 8] [] (awake29_ok _) ?_)
        clear hS; rintro _ _ w ⟨rfl, rfl⟩ hS
        replace hS : K.Sat w0 [g_50, g1_33, g2_34, g3_35, g_24, g1_9, g2_10, g3_11, fr] w := hS
        refine K.RW.qs [.bool true, .int .i64 0, .bool false, .bool false] (by kernel_rfl) ?_
        refine K.RW.q rfl (by kernel_rfl) (K.QR.ldN [.slice a1_3 S_2.q.length c1_6, .slice a2_4 S_2.s.length c2_7, .slice a3_5 S_2.m.length c3_8] rfl rfl (by kernel_rfl) (by kernel_rfl) (K.cells (K.cl ((hS.blk 4 rfl hg_25).cell rfl) (K.cl ((hS.blk 4 rfl hg_25).cell rfl) (K.cl ((hS.blk 4 rfl hg_25).cell rfl) K.cl0))))) ?_
        refine K.RW.l (by kernel_rfl) (K.OW.gcall hS [5, 6, 7] [0, 1, 2, 3, 4, 8] [.agg #[.slice a1_3 S_2.q.length c1_6, .slice a2_4 S_2.s.length c2_7, .slice a3_5 S_2.m.length c3_8]] (state_ok _ _ _ _ _ _ _ (⟨S_2.q, S_2.s, S_2.m⟩ : StM) (stR_readSt h_12).2 hfw _ (fun w h => K.RowE.len (K.Own.rowE 0 (h.ownr 0 rfl o1_14) rfl (fun _ => rfl)) rfl) _ (fun w h => K.RowE.len (K.Own.rowE 0 (h.ownr 0 rfl o2_15) rfl (fun _ => rfl)) rfl) _ (fun w h => K.RowE.len (K.Own.rowE p0 (h.ownr 0 rfl o3_16) rfl (fun _ => rfl)) rfl)) ?_)
        clear hS; rintro _ _ w ⟨rfl, rfl⟩ hS
        replace hS : K.Sat w0 [g1_9, g2_10, g3_11, g_50, g1_33, g2_34, g3_35, g_24, fr] w := hS
        refine K.RW.qs [.string (K.sb l)] (by kernel_rfl) ?_
        refine K.RW.q rfl (by kernel_rfl) (K.QR.sEq (xs := (stR (⟨S_2.q, S_2.s, S_2.m⟩ : StM))) (ys := l) true rfl rfl rfl (K.deq_t ((stR_readSt h_12).1))) ?_
        refine K.RW.qs [.bool true, .bool true, .bool true] (by kernel_rfl) ?_
        refine K.RW.nil ?_
        refine K.thn_normal ?_
        refine K.KW.ret ?_
        refine ⟨.inr rfl, rfl, (.bool true), K.res1 rfl rfl, [], ?_, hS.pick [8]⟩
        exact rfl
      ·
        exact (rs_bad h_12 h_43).elim
      ·
        exact (bool_no hr_13 hr_46 (by rw [(rs_some h_12).2.2])).elim
    ·
      replace hS : K.Sat w0 [fr] w := hS
      refine K.RW.qs [.tuple #[.agg #[.slice none 0 0, .slice none 0 0, .slice none 0 0], .int .i64 3], .agg #[.slice none 0 0, .slice none 0 0, .slice none 0 0], .int .i64 3] (by kernel_rfl) ?_
      refine K.RW.l rfl (K.OW.gnew 46 [.slice none 0 0, .slice none 0 0, .slice none 0 0] hS ?_)
      clear hS; intro w r_54 g_55 hg_56 hS
      refine K.RW.l rfl (K.OW.gst 0 [.slice none 0 0, .slice none 0 0, .slice none 0 0] [.slice none 0 0, .slice none 0 0, .slice none 0 0] hS hg_56 ?_)
      clear hS; intro w g_57 hg_58 hS
      replace hS : K.Sat w0 [g_57, fr] w := hS
      refine K.RW.qs [.int .i64 3] (by kernel_rfl) ?_
      refine K.RW.nil ?_
      refine K.thn_normal ?_
      refine K.KW.seq ?_
      -- 4 :84
      refine K.KW.region ?_
      refine K.RW.qs [.string (K.sb l)] (by kernel_rfl) ?_
      refine K.RW.l rfl (K.OW.gcall hS [] [0, 1] [.string (K.sb l)] (rrst_ok _ l (by omega)) ?_)
      clear hS; rintro _ _ w (⟨S_59, a1_60, a2_61, a3_62, c1_63, c2_64, c3_65, g1_66, g2_67, g3_68, hS_69, h4_70, h_71, hr_72, rfl, rfl, o1_73, o2_74, o3_75⟩ | ⟨h_76, rfl, rfl⟩ | ⟨h4_77, h_78, hr_79, rfl, rfl⟩) hS
      ·
        exact (rs_none h_17 hS_69 h_71).elim
      ·
        replace hS : K.Sat w0 [g_57, fr] w := hS
        refine K.RW.qs [.tuple #[.agg #[.slice none 0 0, .slice none 0 0, .slice none 0 0], .int .i64 3], .agg #[.slice none 0 0, .slice none 0 0, .slice none 0 0], .int .i64 3] (by kernel_rfl) ?_
        refine K.RW.l rfl (K.OW.gnew 46 [.slice none 0 0, .slice none 0 0, .slice none 0 0] hS ?_)
        clear hS; intro w r_80 g_81 hg_82 hS
        refine K.RW.l rfl (K.OW.gst 0 [.slice none 0 0, .slice none 0 0, .slice none 0 0] [.slice none 0 0, .slice none 0 0, .slice none 0 0] hS hg_82 ?_)
        clear hS; intro w g_83 hg_84 hS
        replace hS : K.Sat w0 [g_83, g_57, fr] w := hS
        refine K.RW.qs [.int .i64 3] (by kernel_rfl) ?_
        refine K.RW.nil ?_
        refine K.thn_normal ?_
        refine K.KW.seq ?_
        refine K.KW.seq ?_
        -- 5 :85
        refine K.KW.region ?_
        refine K.RW.qs [.int .i64 3, .int .i64 3, .bool false, .bool false] (by kernel_rfl) ?_
        refine K.RW.q rfl (by kernel_rfl) (K.QR.ldN [.slice none 0 0, .slice none 0 0, .slice none 0 0] rfl rfl (by kernel_rfl) (by kernel_rfl) (K.cells (K.cl ((hS.blk 1 rfl hg_58).cell rfl) (K.cl ((hS.blk 1 rfl hg_58).cell rfl) (K.cl ((hS.blk 1 rfl hg_58).cell rfl) K.cl0))))) ?_
        refine K.RW.q rfl (by kernel_rfl) (K.QR.ldN [.slice none 0 0, .slice none 0 0, .slice none 0 0] rfl rfl (by kernel_rfl) (by kernel_rfl) (K.cells (K.cl ((hS.blk 0 rfl hg_84).cell rfl) (K.cl ((hS.blk 0 rfl hg_84).cell rfl) (K.cl ((hS.blk 0 rfl hg_84).cell rfl) K.cl0))))) ?_
        refine K.RW.l (by kernel_rfl) (K.OW.kcall hS [.agg #[.slice none 0 0, .slice none 0 0, .slice none 0 0], .agg #[.slice none 0 0, .slice none 0 0, .slice none 0 0]] (same8_ok _ _ _ _ _ _ _ _ _ _ _ _ [] [] [] [] [] [] _ (by first | omega | decide) (by first | omega | decide) (by first | omega | decide) (K.RowE.zero _ _ _ _) (K.RowE.zero _ _ _ _) (K.RowE.zero _ _ _ _) (K.RowE.zero _ _ _ _) (K.RowE.zero _ _ _ _) (K.RowE.zero _ _ _ _)) ?_)
        rintro _ w ⟨rfl, c_85⟩
        replace hS := hS.no c_85
        have hb_86 : decide (([] : List Int) = [] ∧ ([] : List Int) = [] ∧ ([] : List PairM) = []) = true := by decide
        rw [hb_86]
        refine K.RW.qs [.bool false, .bool false] (by kernel_rfl) ?_
        refine K.RW.nil ?_
        refine K.thn_normal ?_
        refine K.KW.ifF rfl ?_
        refine K.KW.skip ?_
        refine K.thn_normal ?_
        refine K.KW.seq ?_
        -- 7 :88
        refine K.KW.region ?_
        refine K.RW.l rfl (K.OW.gcall hS [] [0, 1, 2] [] (awake29_ok _) ?_)
        clear hS; rintro _ _ w ⟨rfl, rfl⟩ hS
        replace hS : K.Sat w0 [g_83, g_57, fr] w := hS
        refine K.RW.qs [.bool true, .int .i64 3, .bool true, .bool true] (by kernel_rfl) ?_
        refine K.RW.skip rfl (by kernel_rfl) ?_
        refine K.RW.skip rfl (by kernel_rfl) ?_
        refine K.RW.skip rfl (by kernel_rfl) ?_
        refine K.RW.skip rfl (by kernel_rfl) ?_
        refine K.RW.qs [.bool true, .bool true, .bool true] (by kernel_rfl) ?_
        refine K.RW.nil ?_
        refine K.thn_normal ?_
        refine K.KW.ret ?_
        refine ⟨.inr rfl, rfl, (.bool true), K.res1 rfl rfl, [], ?_, hS.pick [2]⟩
        exact rfl
      ·
        exact (rs_none h_17 rfl h_78).elim
    ·
      replace hS : K.Sat w0 [fr] w := hS
      refine K.RW.qs [.tuple #[.agg #[.slice none 0 0, .slice none 0 0, .slice none 0 0], .int .i64 9], .agg #[.slice none 0 0, .slice none 0 0, .slice none 0 0], .int .i64 9] (by kernel_rfl) ?_
      refine K.RW.l rfl (K.OW.gnew 46 [.slice none 0 0, .slice none 0 0, .slice none 0 0] hS ?_)
      clear hS; intro w r_87 g_88 hg_89 hS
      refine K.RW.l rfl (K.OW.gst 0 [.slice none 0 0, .slice none 0 0, .slice none 0 0] [.slice none 0 0, .slice none 0 0, .slice none 0 0] hS hg_89 ?_)
      clear hS; intro w g_90 hg_91 hS
      replace hS : K.Sat w0 [g_90, fr] w := hS
      refine K.RW.qs [.int .i64 9] (by kernel_rfl) ?_
      refine K.RW.nil ?_
      refine K.thn_normal ?_
      refine K.KW.seq ?_
      -- 4 :84
      refine K.KW.region ?_
      refine K.RW.qs [.string (K.sb l)] (by kernel_rfl) ?_
      refine K.RW.l rfl (K.OW.gcall hS [] [0, 1] [.string (K.sb l)] (rrst_ok _ l (by omega)) ?_)
      clear hS; rintro _ _ w (⟨S_92, a1_93, a2_94, a3_95, c1_96, c2_97, c3_98, g1_99, g2_100, g3_101, hS_102, h4_103, h_104, hr_105, rfl, rfl, o1_106, o2_107, o3_108⟩ | ⟨h_109, rfl, rfl⟩ | ⟨h4_110, h_111, hr_112, rfl, rfl⟩) hS
      ·
        exact (bool_no hr_105 hr_20 (by rw [hS_102, (rs_some h_19).2.2])).elim
      ·
        exact (rs_bad h_19 h_109).elim
      ·
        replace hS : K.Sat w0 [g_90, fr] w := hS
        refine K.RW.qs [.tuple #[.agg #[.slice none 0 0, .slice none 0 0, .slice none 0 0], .int .i64 9], .agg #[.slice none 0 0, .slice none 0 0, .slice none 0 0], .int .i64 9] (by kernel_rfl) ?_
        refine K.RW.l rfl (K.OW.gnew 46 [.slice none 0 0, .slice none 0 0, .slice none 0 0] hS ?_)
        clear hS; intro w r_113 g_114 hg_115 hS
        refine K.RW.l rfl (K.OW.gst 0 [.slice none 0 0, .slice none 0 0, .slice none 0 0] [.slice none 0 0, .slice none 0 0, .slice none 0 0] hS hg_115 ?_)
        clear hS; intro w g_116 hg_117 hS
        replace hS : K.Sat w0 [g_116, g_90, fr] w := hS
        refine K.RW.qs [.int .i64 9] (by kernel_rfl) ?_
        refine K.RW.nil ?_
        refine K.thn_normal ?_
        refine K.KW.seq ?_
        refine K.KW.seq ?_
        -- 5 :85
        refine K.KW.region ?_
        refine K.RW.qs [.int .i64 9, .int .i64 9, .bool false, .bool false] (by kernel_rfl) ?_
        refine K.RW.q rfl (by kernel_rfl) (K.QR.ldN [.slice none 0 0, .slice none 0 0, .slice none 0 0] rfl rfl (by kernel_rfl) (by kernel_rfl) (K.cells (K.cl ((hS.blk 1 rfl hg_91).cell rfl) (K.cl ((hS.blk 1 rfl hg_91).cell rfl) (K.cl ((hS.blk 1 rfl hg_91).cell rfl) K.cl0))))) ?_
        refine K.RW.q rfl (by kernel_rfl) (K.QR.ldN [.slice none 0 0, .slice none 0 0, .slice none 0 0] rfl rfl (by kernel_rfl) (by kernel_rfl) (K.cells (K.cl ((hS.blk 0 rfl hg_117).cell rfl) (K.cl ((hS.blk 0 rfl hg_117).cell rfl) (K.cl ((hS.blk 0 rfl hg_117).cell rfl) K.cl0))))) ?_
        refine K.RW.l (by kernel_rfl) (K.OW.kcall hS [.agg #[.slice none 0 0, .slice none 0 0, .slice none 0 0], .agg #[.slice none 0 0, .slice none 0 0, .slice none 0 0]] (same8_ok _ _ _ _ _ _ _ _ _ _ _ _ [] [] [] [] [] [] _ (by first | omega | decide) (by first | omega | decide) (by first | omega | decide) (K.RowE.zero _ _ _ _) (K.RowE.zero _ _ _ _) (K.RowE.zero _ _ _ _) (K.RowE.zero _ _ _ _) (K.RowE.zero _ _ _ _) (K.RowE.zero _ _ _ _)) ?_)
        rintro _ w ⟨rfl, c_118⟩
        replace hS := hS.no c_118
        have hb_119 : decide (([] : List Int) = [] ∧ ([] : List Int) = [] ∧ ([] : List PairM) = []) = true := by decide
        rw [hb_119]
        refine K.RW.qs [.bool false, .bool false] (by kernel_rfl) ?_
        refine K.RW.nil ?_
        refine K.thn_normal ?_
        refine K.KW.ifF rfl ?_
        refine K.KW.skip ?_
        refine K.thn_normal ?_
        refine K.KW.seq ?_
        -- 7 :88
        refine K.KW.region ?_
        refine K.RW.l rfl (K.OW.gcall hS [] [0, 1, 2] [] (awake29_ok _) ?_)
        clear hS; rintro _ _ w ⟨rfl, rfl⟩ hS
        replace hS : K.Sat w0 [g_116, g_90, fr] w := hS
        refine K.RW.qs [.bool true, .int .i64 9, .bool true, .bool true] (by kernel_rfl) ?_
        refine K.RW.skip rfl (by kernel_rfl) ?_
        refine K.RW.skip rfl (by kernel_rfl) ?_
        refine K.RW.skip rfl (by kernel_rfl) ?_
        refine K.RW.skip rfl (by kernel_rfl) ?_
        refine K.RW.qs [.bool true, .bool true, .bool true] (by kernel_rfl) ?_
        refine K.RW.nil ?_
        refine K.thn_normal ?_
        refine K.KW.ret ?_
        refine ⟨.inr rfl, rfl, (.bool true), K.res1 rfl rfl, [], ?_, hS.pick [2]⟩
        exact rfl
end Go.Proofs.YtnehocjmgnhhhaaDoor
