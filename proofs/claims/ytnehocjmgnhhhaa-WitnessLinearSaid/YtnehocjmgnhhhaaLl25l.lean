import Derived.Test.YtnehocjmgnhhhaaFpl25
import Derived.Test.YtnehocjmgnhhhaaKn
/- The statement WitnessLinear. -/
namespace Go.Proofs.Ytnehocjmgnhhhaa
open Go.RowKit
set_option linter.unusedVariables false
attribute [local irreducible] K.KW K.RW K.DW K.OW K.QR K.KC
set_option maxHeartbeats 16000000 in
set_option maxRecDepth 100000 in
theorem lawwl_ok (w0 : World) (q s mm a : Option Addr) (cq cs cm cap : Nat) (S : StM) (L : List CallM) (x1 : RU32 w0 q S.q) (x2 : RU32 w0 s S.s) (x3 : RPr w0 mm S.m) (hcq : S.q.length ≤ cq) (ha : K.RowE w0 a L.length 11 (fun i => cCall (L.getD i call0))) :
  K.GC Try.prog w0 6 #[.agg #[.slice q S.q.length cq, .slice s S.s.length cs, .slice mm S.m.length cm], .slice a L.length cap] [] (fun v post => v = .bool true) := by
 refine K.GC.mk (n := 64) Try.func6 rfl rfl [.agg #[.slice q S.q.length cq, .slice s S.s.length cs, .slice mm S.m.length cm], .slice a L.length cap] rfl rfl ?_
 intro fr w hS
 replace hS : K.Sat w0 [fr] w := hS
 obtain ⟨g, hg⟩ : ∃ g : K.Cs, g = [] := ⟨_, rfl⟩
 have x : RdSt w0 g q s mm cq S := ⟨fun _ h => x1.no h.chg, fun _ h => x2.no h.chg, fun _ h => x3.no h.chg, hcq⟩
 replace hS : K.Sat w0 [g, fr] w := hS.of (by simp [hg])
 refine K.s (K.g ?_)
 refine K.l (K.OW.gnew 30 [.slice q S.q.length cq, .slice s S.s.length cs, .slice mm S.m.length cm] hS ?_)
 clear hS; intro w r_1 g_2 hg_3 hS
 refine K.q [.bool false] (K.z (K.t (K.s (K.s (K.g ?_)))))
 refine K.a (K.QR.ldN [.slice q S.q.length cq, .slice s S.s.length cs, .slice mm S.m.length cm] rfl rfl (by kernel_rfl) (by kernel_rfl) (K.cells (K.cl ((hS.blk 0 rfl hg_3).cell rfl) (K.cl ((hS.blk 0 rfl hg_3).cell rfl) (K.cl ((hS.blk 0 rfl hg_3).cell rfl) K.cl0))))) ?_
 refine K.q [.slice a L.length cap] ?_
 refine K.l (K.OW.gcall hS [] [0, 1, 2] [.agg #[.slice q S.q.length cq, .slice s S.s.length cs, .slice mm S.m.length cm], .slice a L.length cap] (few25_ok _ q s mm a cq cs cm cap S L) ?_)
 clear hS; rintro _ _ w ⟨rfl, (⟨h_4, rfl⟩ | ⟨h_5, rfl⟩)⟩ hS
 ·
  replace hS : K.Sat w0 [g_2, g, fr] w := hS
  refine K.q [.bool false] (K.z (K.t (K.f (K.k (K.t (K.s (K.g ?_)))))))
  refine K.a (K.QR.ldN [.slice q S.q.length cq, .slice s S.s.length cs, .slice mm S.m.length cm] rfl rfl (by kernel_rfl) (by kernel_rfl) (K.cells (K.cl ((hS.blk 0 rfl hg_3).cell rfl) (K.cl ((hS.blk 0 rfl hg_3).cell rfl) (K.cl ((hS.blk 0 rfl hg_3).cell rfl) K.cl0))))) ?_
  refine K.q [.slice a L.length cap] ?_
  refine K.l (K.OW.gcall hS [1, 53] [0, 2] [.agg #[.slice q S.q.length cq, .slice s S.s.length cs, .slice mm S.m.length cm], .slice a L.length cap] (check_ok _ _ _ L (by omega) _ (fun w h => ha.no h.chg) q s mm cq cs cm S (by omega) (by omega) _ x (by omega) (by omega) (by omega) (by omega)) ?_)
  clear hS; rintro _ _ w ⟨g_31, rfl, hg_32, (⟨h_6, rfl⟩ | ⟨h_7, h2_8, rfl⟩ | ⟨h_9, h2_10, Q_11, ho_12, hl_13, hn_14, rfl⟩ | ⟨h_15, h2_16, Q_17, ho_18, hl_19, hn_20, T_21, q_22, cq_23, s_24, cs_25, m_26, cm_27, hT_28, hgd_29, rfl, hx_30⟩)⟩ hS
  ·
   have hr_33 := x.mono hg_32
   replace hS : K.Sat w0 [g_31, g_2, fr] w := hS.of (by simp [K.pick, K.nth])
   refine K.q [.tuple #[.agg #[.slice none 0 0, .slice none 0 0, .slice none 0 0], .int .i64 1], .agg #[.slice none 0 0, .slice none 0 0, .slice none 0 0], .int .i64 1] ?_
   refine K.l (K.OW.gnew 30 [.slice none 0 0, .slice none 0 0, .slice none 0 0] hS ?_)
   clear hS; intro w r_34 g_35 hg_36 hS
   refine K.l (K.OW.gst 0 [.slice none 0 0, .slice none 0 0, .slice none 0 0] _ hS hg_36 ?_)
   clear hS; intro w g_37 hg_38 hS
   replace hS : K.Sat w0 [g_37, g_31, g_2, fr] w := hS
   refine K.q [.int .i64 1] (K.z (K.t (K.s (K.g ?_))))
   refine K.a (K.QR.ldN [.slice q S.q.length cq, .slice s S.s.length cs, .slice mm S.m.length cm] rfl rfl (by kernel_rfl) (by kernel_rfl) (K.cells (K.cl ((hS.blk 2 rfl hg_3).cell rfl) (K.cl ((hS.blk 2 rfl hg_3).cell rfl) (K.cl ((hS.blk 2 rfl hg_3).cell rfl) K.cl0))))) ?_
   refine K.q [.slice a L.length cap] ?_
   refine K.l (K.OW.gcall hS [1, 54] [0, 2, 3] [.agg #[.slice q S.q.length cq, .slice s S.s.length cs, .slice mm S.m.length cm], .slice a L.length cap] (linear_ok _ _ _ L (by omega) _ (fun w h => ha.no h.chg) q s mm cq cs cm S (by omega) (by omega) _ hr_33 (by omega) (by omega) (by omega)) ?_)
   clear hS; rintro _ _ w (⟨h_39, rfl, rfl⟩ | ⟨h_40, h2_41, rfl, rfl⟩ | ⟨h_42, h2_43, h3_44, rfl, rfl⟩ | ⟨h_45, h2_46, h3_47, h4_48, g_49, rfl, hg_50, rfl⟩ | ⟨h_51, h2_52, h3_53, h4_54, g_55, rfl, hg_56, rfl⟩) hS
   ·
    replace hS : K.Sat w0 [g_31, g_37, g_2, fr] w := hS.of (by simp [K.pick, K.nth])
    refine K.q [.tuple #[.bool false, .int .i64 1], .bool false, .int .i64 1, .bool false, .int .i64 1] (K.z (K.t (K.s (K.s (K.g (K.q [.int .i64 1, .bool true] (K.z (K.t (K.h (K.s (K.g ?_)))))))))))
    refine K.l (K.OW.gcall hS [] [0, 1, 2, 3] [] (awake25_ok _) ?_)
    clear hS; rintro _ _ w ⟨rfl, rfl⟩ hS
    replace hS : K.Sat w0 [g_31, g_37, g_2, fr] w := hS
    refine K.q [.bool true] (K.z (K.t (K.r (K.u ?_))))
    refine ⟨.inr rfl, rfl, (.bool true), K.res1 rfl rfl, [], ?_, hS.pick [3]⟩
    exact rfl
   ·
    replace hS : K.Sat w0 [g_31, g_37, g_2, fr] w := hS.of (by simp [K.pick, K.nth])
    refine K.q [.tuple #[.bool false, .int .i64 3], .bool false, .int .i64 3, .bool false, .int .i64 3] (K.z (K.t (K.s (K.s (K.g (K.q [.int .i64 1, .bool true] (K.z (K.t (K.h (K.s (K.g ?_)))))))))))
    refine K.l (K.OW.gcall hS [] [0, 1, 2, 3] [] (awake25_ok _) ?_)
    clear hS; rintro _ _ w ⟨rfl, rfl⟩ hS
    replace hS : K.Sat w0 [g_31, g_37, g_2, fr] w := hS
    refine K.q [.bool true] (K.z (K.t (K.r (K.u ?_))))
    refine ⟨.inr rfl, rfl, (.bool true), K.res1 rfl rfl, [], ?_, hS.pick [3]⟩
    exact rfl
   ·
    replace hS : K.Sat w0 [g_31, g_37, g_2, fr] w := hS.of (by simp [K.pick, K.nth])
    refine K.q [.tuple #[.bool false, .int .i64 2], .bool false, .int .i64 2, .bool false, .int .i64 2] (K.z (K.t (K.s (K.s (K.g (K.q [.int .i64 1, .bool true] (K.z (K.t (K.h (K.s (K.g ?_)))))))))))
    refine K.l (K.OW.gcall hS [] [0, 1, 2, 3] [] (awake25_ok _) ?_)
    clear hS; rintro _ _ w ⟨rfl, rfl⟩ hS
    replace hS : K.Sat w0 [g_31, g_37, g_2, fr] w := hS
    refine K.q [.bool true] (K.z (K.t (K.r (K.u ?_))))
    refine ⟨.inr rfl, rfl, (.bool true), K.res1 rfl rfl, [], ?_, hS.pick [3]⟩
    exact rfl
   ·
    have hr_57 := hr_33.mono hg_50
    replace hS : K.Sat w0 [g_49, g_37, g_2, fr] w := hS.of (by simp [K.pick, K.nth])
    refine K.q [.tuple #[.bool false, .int .i64 0], .bool false, .int .i64 0, .bool false, .int .i64 0] (K.z (K.t (K.s (K.s (K.g (K.q [.int .i64 1, .bool true] (K.z (K.t (K.h (K.s (K.g ?_)))))))))))
    refine K.l (K.OW.gcall hS [] [0, 1, 2, 3] [] (awake25_ok _) ?_)
    clear hS; rintro _ _ w ⟨rfl, rfl⟩ hS
    replace hS : K.Sat w0 [g_49, g_37, g_2, fr] w := hS
    refine K.q [.bool true] (K.z (K.t (K.r (K.u ?_))))
    refine ⟨.inr rfl, rfl, (.bool true), K.res1 rfl rfl, [], ?_, hS.pick [3]⟩
    exact rfl
   ·
    have hr_58 := hr_33.mono hg_56
    replace hS : K.Sat w0 [g_55, g_37, g_2, fr] w := hS.of (by simp [K.pick, K.nth])
    refine K.q [.tuple #[.bool true, .int .i64 0], .bool true, .int .i64 0, .bool true, .int .i64 0] (K.z (K.t (K.s (K.s (K.g (K.q [.int .i64 1, .bool true] (K.z (K.t (K.h (K.s (K.g ?_)))))))))))
    refine K.l (K.OW.gcall hS [] [0, 1, 2, 3] [] (awake25_ok _) ?_)
    clear hS; rintro _ _ w ⟨rfl, rfl⟩ hS
    replace hS : K.Sat w0 [g_55, g_37, g_2, fr] w := hS
    refine K.q [.bool true] (K.z (K.t (K.r (K.u ?_))))
    refine ⟨.inr rfl, rfl, (.bool true), K.res1 rfl rfl, [], ?_, hS.pick [3]⟩
    exact rfl
  ·
   have hr_59 := x.mono hg_32
   replace hS : K.Sat w0 [g_31, g_2, fr] w := hS.of (by simp [K.pick, K.nth])
   refine K.q [.tuple #[.agg #[.slice none 0 0, .slice none 0 0, .slice none 0 0], .int .i64 3], .agg #[.slice none 0 0, .slice none 0 0, .slice none 0 0], .int .i64 3] ?_
   refine K.l (K.OW.gnew 30 [.slice none 0 0, .slice none 0 0, .slice none 0 0] hS ?_)
   clear hS; intro w r_60 g_61 hg_62 hS
   refine K.l (K.OW.gst 0 [.slice none 0 0, .slice none 0 0, .slice none 0 0] _ hS hg_62 ?_)
   clear hS; intro w g_63 hg_64 hS
   replace hS : K.Sat w0 [g_63, g_31, g_2, fr] w := hS
   refine K.q [.int .i64 3] (K.z (K.t (K.s (K.g ?_))))
   refine K.a (K.QR.ldN [.slice q S.q.length cq, .slice s S.s.length cs, .slice mm S.m.length cm] rfl rfl (by kernel_rfl) (by kernel_rfl) (K.cells (K.cl ((hS.blk 2 rfl hg_3).cell rfl) (K.cl ((hS.blk 2 rfl hg_3).cell rfl) (K.cl ((hS.blk 2 rfl hg_3).cell rfl) K.cl0))))) ?_
   refine K.q [.slice a L.length cap] ?_
   refine K.l (K.OW.gcall hS [1, 54] [0, 2, 3] [.agg #[.slice q S.q.length cq, .slice s S.s.length cs, .slice mm S.m.length cm], .slice a L.length cap] (linear_ok _ _ _ L (by omega) _ (fun w h => ha.no h.chg) q s mm cq cs cm S (by omega) (by omega) _ hr_59 (by omega) (by omega) (by omega)) ?_)
   clear hS; rintro _ _ w (⟨h_65, rfl, rfl⟩ | ⟨h_66, h2_67, rfl, rfl⟩ | ⟨h_68, h2_69, h3_70, rfl, rfl⟩ | ⟨h_71, h2_72, h3_73, h4_74, g_75, rfl, hg_76, rfl⟩ | ⟨h_77, h2_78, h3_79, h4_80, g_81, rfl, hg_82, rfl⟩) hS
   ·
    replace hS : K.Sat w0 [g_31, g_63, g_2, fr] w := hS.of (by simp [K.pick, K.nth])
    refine K.q [.tuple #[.bool false, .int .i64 1], .bool false, .int .i64 1, .bool false, .int .i64 1] (K.z (K.t (K.s (K.s (K.g (K.q [.int .i64 3, .bool true] (K.z (K.t (K.h (K.s (K.g ?_)))))))))))
    refine K.l (K.OW.gcall hS [] [0, 1, 2, 3] [] (awake25_ok _) ?_)
    clear hS; rintro _ _ w ⟨rfl, rfl⟩ hS
    replace hS : K.Sat w0 [g_31, g_63, g_2, fr] w := hS
    refine K.q [.bool true] (K.z (K.t (K.r (K.u ?_))))
    refine ⟨.inr rfl, rfl, (.bool true), K.res1 rfl rfl, [], ?_, hS.pick [3]⟩
    exact rfl
   ·
    replace hS : K.Sat w0 [g_31, g_63, g_2, fr] w := hS.of (by simp [K.pick, K.nth])
    refine K.q [.tuple #[.bool false, .int .i64 3], .bool false, .int .i64 3, .bool false, .int .i64 3] (K.z (K.t (K.s (K.s (K.g (K.q [.int .i64 3, .bool true] (K.z (K.t (K.h (K.s (K.g ?_)))))))))))
    refine K.l (K.OW.gcall hS [] [0, 1, 2, 3] [] (awake25_ok _) ?_)
    clear hS; rintro _ _ w ⟨rfl, rfl⟩ hS
    replace hS : K.Sat w0 [g_31, g_63, g_2, fr] w := hS
    refine K.q [.bool true] (K.z (K.t (K.r (K.u ?_))))
    refine ⟨.inr rfl, rfl, (.bool true), K.res1 rfl rfl, [], ?_, hS.pick [3]⟩
    exact rfl
   ·
    replace hS : K.Sat w0 [g_31, g_63, g_2, fr] w := hS.of (by simp [K.pick, K.nth])
    refine K.q [.tuple #[.bool false, .int .i64 2], .bool false, .int .i64 2, .bool false, .int .i64 2] (K.z (K.t (K.s (K.s (K.g (K.q [.int .i64 3, .bool true] (K.z (K.t (K.h (K.s (K.g ?_)))))))))))
    refine K.l (K.OW.gcall hS [] [0, 1, 2, 3] [] (awake25_ok _) ?_)
    clear hS; rintro _ _ w ⟨rfl, rfl⟩ hS
    replace hS : K.Sat w0 [g_31, g_63, g_2, fr] w := hS
    refine K.q [.bool true] (K.z (K.t (K.r (K.u ?_))))
    refine ⟨.inr rfl, rfl, (.bool true), K.res1 rfl rfl, [], ?_, hS.pick [3]⟩
    exact rfl
   ·
    have hr_83 := hr_59.mono hg_76
    replace hS : K.Sat w0 [g_75, g_63, g_2, fr] w := hS.of (by simp [K.pick, K.nth])
    refine K.q [.tuple #[.bool false, .int .i64 0], .bool false, .int .i64 0, .bool false, .int .i64 0] (K.z (K.t (K.s (K.s (K.g (K.q [.int .i64 3, .bool true] (K.z (K.t (K.h (K.s (K.g ?_)))))))))))
    refine K.l (K.OW.gcall hS [] [0, 1, 2, 3] [] (awake25_ok _) ?_)
    clear hS; rintro _ _ w ⟨rfl, rfl⟩ hS
    replace hS : K.Sat w0 [g_75, g_63, g_2, fr] w := hS
    refine K.q [.bool true] (K.z (K.t (K.r (K.u ?_))))
    refine ⟨.inr rfl, rfl, (.bool true), K.res1 rfl rfl, [], ?_, hS.pick [3]⟩
    exact rfl
   ·
    have hr_84 := hr_59.mono hg_82
    replace hS : K.Sat w0 [g_81, g_63, g_2, fr] w := hS.of (by simp [K.pick, K.nth])
    refine K.q [.tuple #[.bool true, .int .i64 0], .bool true, .int .i64 0, .bool true, .int .i64 0] (K.z (K.t (K.s (K.s (K.g (K.q [.int .i64 3, .bool true] (K.z (K.t (K.h (K.s (K.g ?_)))))))))))
    refine K.l (K.OW.gcall hS [] [0, 1, 2, 3] [] (awake25_ok _) ?_)
    clear hS; rintro _ _ w ⟨rfl, rfl⟩ hS
    replace hS : K.Sat w0 [g_81, g_63, g_2, fr] w := hS
    refine K.q [.bool true] (K.z (K.t (K.r (K.u ?_))))
    refine ⟨.inr rfl, rfl, (.bool true), K.res1 rfl rfl, [], ?_, hS.pick [3]⟩
    exact rfl
  ·
   have hr_85 := x.mono hg_32
   replace hS : K.Sat w0 [g_31, g_2, fr] w := hS.of (by simp [K.pick, K.nth])
   refine K.q [.tuple #[.agg #[.slice none 0 0, .slice none 0 0, .slice none 0 0], .int .i64 9], .agg #[.slice none 0 0, .slice none 0 0, .slice none 0 0], .int .i64 9] ?_
   refine K.l (K.OW.gnew 30 [.slice none 0 0, .slice none 0 0, .slice none 0 0] hS ?_)
   clear hS; intro w r_86 g_87 hg_88 hS
   refine K.l (K.OW.gst 0 [.slice none 0 0, .slice none 0 0, .slice none 0 0] _ hS hg_88 ?_)
   clear hS; intro w g_89 hg_90 hS
   replace hS : K.Sat w0 [g_89, g_31, g_2, fr] w := hS
   refine K.q [.int .i64 9] (K.z (K.t (K.s (K.g ?_))))
   refine K.a (K.QR.ldN [.slice q S.q.length cq, .slice s S.s.length cs, .slice mm S.m.length cm] rfl rfl (by kernel_rfl) (by kernel_rfl) (K.cells (K.cl ((hS.blk 2 rfl hg_3).cell rfl) (K.cl ((hS.blk 2 rfl hg_3).cell rfl) (K.cl ((hS.blk 2 rfl hg_3).cell rfl) K.cl0))))) ?_
   refine K.q [.slice a L.length cap] ?_
   refine K.l (K.OW.gcall hS [1, 54] [0, 2, 3] [.agg #[.slice q S.q.length cq, .slice s S.s.length cs, .slice mm S.m.length cm], .slice a L.length cap] (linear_ok _ _ _ L (by omega) _ (fun w h => ha.no h.chg) q s mm cq cs cm S (by omega) (by omega) _ hr_85 (by omega) (by omega) (by omega)) ?_)
   clear hS; rintro _ _ w (⟨h_91, rfl, rfl⟩ | ⟨h_92, h2_93, rfl, rfl⟩ | ⟨h_94, h2_95, h3_96, rfl, rfl⟩ | ⟨h_97, h2_98, h3_99, h4_100, g_101, rfl, hg_102, rfl⟩ | ⟨h_103, h2_104, h3_105, h4_106, g_107, rfl, hg_108, rfl⟩) hS
   ·
    replace hS : K.Sat w0 [g_31, g_89, g_2, fr] w := hS.of (by simp [K.pick, K.nth])
    refine K.q [.tuple #[.bool false, .int .i64 1], .bool false, .int .i64 1, .bool false, .int .i64 1] (K.z (K.t (K.s (K.s (K.g (K.q [.int .i64 9, .bool true] (K.z (K.t (K.h (K.s (K.g ?_)))))))))))
    refine K.l (K.OW.gcall hS [] [0, 1, 2, 3] [] (awake25_ok _) ?_)
    clear hS; rintro _ _ w ⟨rfl, rfl⟩ hS
    replace hS : K.Sat w0 [g_31, g_89, g_2, fr] w := hS
    refine K.q [.bool true] (K.z (K.t (K.r (K.u ?_))))
    refine ⟨.inr rfl, rfl, (.bool true), K.res1 rfl rfl, [], ?_, hS.pick [3]⟩
    exact rfl
   ·
    replace hS : K.Sat w0 [g_31, g_89, g_2, fr] w := hS.of (by simp [K.pick, K.nth])
    refine K.q [.tuple #[.bool false, .int .i64 3], .bool false, .int .i64 3, .bool false, .int .i64 3] (K.z (K.t (K.s (K.s (K.g (K.q [.int .i64 9, .bool true] (K.z (K.t (K.h (K.s (K.g ?_)))))))))))
    refine K.l (K.OW.gcall hS [] [0, 1, 2, 3] [] (awake25_ok _) ?_)
    clear hS; rintro _ _ w ⟨rfl, rfl⟩ hS
    replace hS : K.Sat w0 [g_31, g_89, g_2, fr] w := hS
    refine K.q [.bool true] (K.z (K.t (K.r (K.u ?_))))
    refine ⟨.inr rfl, rfl, (.bool true), K.res1 rfl rfl, [], ?_, hS.pick [3]⟩
    exact rfl
   ·
    replace hS : K.Sat w0 [g_31, g_89, g_2, fr] w := hS.of (by simp [K.pick, K.nth])
    refine K.q [.tuple #[.bool false, .int .i64 2], .bool false, .int .i64 2, .bool false, .int .i64 2] (K.z (K.t (K.s (K.s (K.g (K.q [.int .i64 9, .bool true] (K.z (K.t (K.h (K.s (K.g ?_)))))))))))
    refine K.l (K.OW.gcall hS [] [0, 1, 2, 3] [] (awake25_ok _) ?_)
    clear hS; rintro _ _ w ⟨rfl, rfl⟩ hS
    replace hS : K.Sat w0 [g_31, g_89, g_2, fr] w := hS
    refine K.q [.bool true] (K.z (K.t (K.r (K.u ?_))))
    refine ⟨.inr rfl, rfl, (.bool true), K.res1 rfl rfl, [], ?_, hS.pick [3]⟩
    exact rfl
   ·
    have hr_109 := hr_85.mono hg_102
    replace hS : K.Sat w0 [g_101, g_89, g_2, fr] w := hS.of (by simp [K.pick, K.nth])
    refine K.q [.tuple #[.bool false, .int .i64 0], .bool false, .int .i64 0, .bool false, .int .i64 0] (K.z (K.t (K.s (K.s (K.g (K.q [.int .i64 9, .bool true] (K.z (K.t (K.h (K.s (K.g ?_)))))))))))
    refine K.l (K.OW.gcall hS [] [0, 1, 2, 3] [] (awake25_ok _) ?_)
    clear hS; rintro _ _ w ⟨rfl, rfl⟩ hS
    replace hS : K.Sat w0 [g_101, g_89, g_2, fr] w := hS
    refine K.q [.bool true] (K.z (K.t (K.r (K.u ?_))))
    refine ⟨.inr rfl, rfl, (.bool true), K.res1 rfl rfl, [], ?_, hS.pick [3]⟩
    exact rfl
   ·
    have hr_110 := hr_85.mono hg_108
    replace hS : K.Sat w0 [g_107, g_89, g_2, fr] w := hS.of (by simp [K.pick, K.nth])
    refine K.q [.tuple #[.bool true, .int .i64 0], .bool true, .int .i64 0, .bool true, .int .i64 0] (K.z (K.t (K.s (K.s (K.g (K.q [.int .i64 9, .bool true] (K.z (K.t (K.h (K.s (K.g ?_)))))))))))
    refine K.l (K.OW.gcall hS [] [0, 1, 2, 3] [] (awake25_ok _) ?_)
    clear hS; rintro _ _ w ⟨rfl, rfl⟩ hS
    replace hS : K.Sat w0 [g_107, g_89, g_2, fr] w := hS
    refine K.q [.bool true] (K.z (K.t (K.r (K.u ?_))))
    refine ⟨.inr rfl, rfl, (.bool true), K.res1 rfl rfl, [], ?_, hS.pick [3]⟩
    exact rfl
  ·
   have hr_111 := x.mono hg_32
   replace hS : K.Sat w0 [g_31, g_2, fr] w := hS.of (by simp [K.pick, K.nth])
   refine K.q [.tuple #[.agg #[.slice q_22 T_21.q.length cq_23, .slice s_24 T_21.s.length cs_25, .slice m_26 T_21.m.length cm_27], .int .i64 0], .agg #[.slice q_22 T_21.q.length cq_23, .slice s_24 T_21.s.length cs_25, .slice m_26 T_21.m.length cm_27], .int .i64 0] ?_
   refine K.l (K.OW.gnew 30 [.slice none 0 0, .slice none 0 0, .slice none 0 0] hS ?_)
   clear hS; intro w r_112 g_113 hg_114 hS
   refine K.l (K.OW.gst 0 [.slice q_22 T_21.q.length cq_23, .slice s_24 T_21.s.length cs_25, .slice m_26 T_21.m.length cm_27] _ hS hg_114 ?_)
   clear hS; intro w g_115 hg_116 hS
   replace hS : K.Sat w0 [g_115, g_31, g_2, fr] w := hS
   refine K.q [.int .i64 0] (K.z (K.t (K.s (K.g ?_))))
   refine K.a (K.QR.ldN [.slice q S.q.length cq, .slice s S.s.length cs, .slice mm S.m.length cm] rfl rfl (by kernel_rfl) (by kernel_rfl) (K.cells (K.cl ((hS.blk 2 rfl hg_3).cell rfl) (K.cl ((hS.blk 2 rfl hg_3).cell rfl) (K.cl ((hS.blk 2 rfl hg_3).cell rfl) K.cl0))))) ?_
   refine K.q [.slice a L.length cap] ?_
   refine K.l (K.OW.gcall hS [1, 54] [0, 2, 3] [.agg #[.slice q S.q.length cq, .slice s S.s.length cs, .slice mm S.m.length cm], .slice a L.length cap] (linear_ok _ _ _ L (by omega) _ (fun w h => ha.no h.chg) q s mm cq cs cm S (by omega) (by omega) _ hr_111 (by omega) (by omega) (by omega)) ?_)
   clear hS; rintro _ _ w (⟨h_117, rfl, rfl⟩ | ⟨h_118, h2_119, rfl, rfl⟩ | ⟨h_120, h2_121, h3_122, rfl, rfl⟩ | ⟨h_123, h2_124, h3_125, h4_126, g_127, rfl, hg_128, rfl⟩ | ⟨h_129, h2_130, h3_131, h4_132, g_133, rfl, hg_134, rfl⟩) hS
   ·
    exact absurd h_15 h_117
   ·
    exact absurd h2_16 h2_119
   ·
    replace hS : K.Sat w0 [g_31, g_115, g_2, fr] w := hS.of (by simp [K.pick, K.nth])
    refine K.q [.tuple #[.bool false, .int .i64 2], .bool false, .int .i64 2, .bool false, .int .i64 2] (K.z (K.t (K.s (K.s (K.g (K.q [.int .i64 0, .bool false] (K.z (K.t (K.f (K.k (K.t (K.s (K.s (K.g ?_))))))))))))))
    refine K.q [.slice a L.length cap] ?_
    refine K.a (K.QR.len (P := Try.prog) rfl rfl Try.underlying22) ?_
    refine K.y ((((L.length : Nat) : Int) : Int) > (8 : Int)) ((by omega)) ?_
    refine K.z (K.t (K.h (K.s (K.g ?_))))
    refine K.l (K.OW.gcall hS [] [0, 1, 2, 3] [] (awake25_ok _) ?_)
    clear hS; rintro _ _ w ⟨rfl, rfl⟩ hS
    replace hS : K.Sat w0 [g_31, g_115, g_2, fr] w := hS
    refine K.q [.bool true, .int .i64 2, .bool true, .bool true, .bool true, .bool false, .bool true, .bool true, .bool true] ?_
    refine K.a (K.QR.ldN [.slice q S.q.length cq, .slice s S.s.length cs, .slice mm S.m.length cm] rfl rfl (by kernel_rfl) (by kernel_rfl) (K.cells (K.cl ((hS.blk 2 rfl hg_3).cell rfl) (K.cl ((hS.blk 2 rfl hg_3).cell rfl) (K.cl ((hS.blk 2 rfl hg_3).cell rfl) K.cl0))))) ?_
    refine K.q [.slice a L.length cap] ?_
    refine K.l (K.OW.gcall hS [0, 54] [1, 2, 3] [.agg #[.slice q S.q.length cq, .slice s S.s.length cs, .slice mm S.m.length cm], .slice a L.length cap] (wends_ok _ _ _ L (by omega) _ (fun w h => ha.no h.chg) q s mm cq cs cm S (by omega) (by omega) _ hr_111 (by omega) (by omega) (by omega)) ?_)
    clear hS; rintro _ _ w (⟨h_135, rfl, rfl⟩ | ⟨h_136, h2_137, h3_138, g_139, go_140, ra_141, c_142, Lr_143, rfl, hg_144, rfl, o_145, hal_146, hsz_147, hst_148, hln_149⟩) hS
    ·
     replace hS : K.Sat w0 [g_31, g_115, g_2, fr] w := hS.of (by simp [K.pick, K.nth])
     refine K.a (K.QR.len (P := Try.prog) rfl rfl Try.underlying42) ?_
     refine K.q [.bool true, .bool true, .bool true] (K.z (K.t (K.r (K.u ?_))))
     refine ⟨.inr rfl, rfl, (.bool true), K.res1 rfl rfl, [], ?_, hS.pick [3]⟩
     exact rfl
    ·
     exfalso; omega
   ·
    have h9 := wit_end h2_16 ho_18 hn_20 hT_28; rw [h4_126] at h9; simp at h9
   ·
    have hr_150 := hr_111.mono hg_134
    have hr_151 := hx_30.mono hg_134
    replace hS : K.Sat w0 [g_133, g_115, g_2, fr] w := hS.of (by simp [K.pick, K.nth])
    refine K.q [.tuple #[.bool true, .int .i64 0], .bool true, .int .i64 0, .bool true, .int .i64 0] (K.z (K.t (K.s (K.s (K.g (K.q [.int .i64 0, .bool false] (K.z (K.t (K.f (K.k (K.t (K.s (K.s (K.g ?_))))))))))))))
    refine K.q [.slice a L.length cap] ?_
    refine K.a (K.QR.len (P := Try.prog) rfl rfl Try.underlying22) ?_
    refine K.x ((((L.length : Nat) : Int) : Int) > (8 : Int)) ((by omega)) ?_
    refine K.z (K.t (K.f (K.k (K.t (K.s ?_)))))
    refine K.KW.gdrawn [1, 2] hS (by kernel_rfl) ?_
    clear hS; intro w hS
    refine K.DW.l 0 rfl (by kernel_rfl) rfl (K.OW.gcall hS [] [0, 1, 2, 3] [] (awake25_ok _) ?_)
    clear hS; rintro _ _ w ⟨rfl, rfl⟩ hS
    replace hS : K.Sat w0 [g_133, g_115, g_2, fr] w := hS
    refine ⟨.inl (hS.pick [1, 2]), ?_⟩
    refine K.b 1 rfl (.bool true) (hS.pick [1, 2]) ?_
    refine K.b 2 rfl (.int .i64 0) (hS.pick [1, 2]) ?_
    refine K.b 3 rfl (.bool true) (hS.pick [1, 2]) ?_
    refine K.b 4 rfl (.bool true) (hS.pick [1, 2]) ?_
    refine K.b 5 rfl (.bool true) (hS.pick [1, 2]) ?_
    refine K.b 6 rfl (.bool true) (hS.pick [1, 2]) ?_
    refine K.b 7 rfl (.bool true) (hS.pick [1, 2]) ?_
    refine K.b 8 rfl (.bool true) (hS.pick [1, 2]) ?_
    refine K.m 9 rfl (fun w hS => K.QR.ldN [.slice q S.q.length cq, .slice s S.s.length cs, .slice mm S.m.length cm] rfl rfl (by kernel_rfl) (by kernel_rfl) (K.cells (K.cl ((hS.blk 1 rfl hg_3).cell rfl) (K.cl ((hS.blk 1 rfl hg_3).cell rfl) (K.cl ((hS.blk 1 rfl hg_3).cell rfl) K.cl0))))) (hS.pick [1, 2]) ?_
    refine K.p 10 rfl (.slice a L.length cap) (hS.pick [1, 2]) ?_
    refine K.m 12 rfl (fun w hS => K.QR.ldN [.slice q_22 T_21.q.length cq_23, .slice s_24 T_21.s.length cs_25, .slice m_26 T_21.m.length cm_27] rfl rfl (by kernel_rfl) (by kernel_rfl) (K.cells (K.cl ((hS.blk 0 rfl hg_116).cell rfl) (K.cl ((hS.blk 0 rfl hg_116).cell rfl) (K.cl ((hS.blk 0 rfl hg_116).cell rfl) K.cl0))))) (hS.pick [1, 2]) ?_
    refine K.DW.l2 11 13 rfl rfl (by kernel_rfl) (by kernel_rfl) (by kernel_rfl) ?_ ?_
    ·
     refine (K.OW.gcall hS [0, 54] [1, 2, 3] [.agg #[.slice q S.q.length cq, .slice s S.s.length cs, .slice mm S.m.length cm], .slice a L.length cap] (wends_ok _ _ _ L (by omega) _ (fun w h => ha.no h.chg) q s mm cq cs cm S (by omega) (by omega) _ hr_150 (by omega) (by omega) (by omega)) ?_)
     clear hS; rintro _ _ w (⟨h_152, rfl, rfl⟩ | ⟨h_153, h2_154, h3_155, g_156, go_157, ra_158, c_159, Lr_160, rfl, hg_161, rfl, o_162, hal_163, hsz_164, hst_165, hln_166⟩) hS
     ·
      exact h_152.elim (fun h9 => absurd h_15 h9) (fun h9 => h9.elim (fun h9 => absurd h2_16 h9) (fun h9 => by omega))
     ·
      have hr_167 := hr_150.mono hg_161
      have hr_168 := hr_151.mono hg_161
      replace hS : K.Sat w0 [g_156, go_157, g_115, g_2, fr] w := hS.of (by simp [K.pick, K.nth])
      refine ⟨.inl (hS.pick [2, 3]), ?_⟩
      refine K.DW.l 13 rfl (by kernel_rfl) (by kernel_rfl) (K.OW.gbs [(0, .agg #[.slice q_22 T_21.q.length cq_23, .slice s_24 T_21.s.length cs_25, .slice m_26 T_21.m.length cm_27])] [.slice q_22 T_21.q.length cq_23, .slice s_24 T_21.s.length cs_25, .slice m_26 T_21.m.length cm_27] hS (fun w => K.bs_run (P := Try.prog) w 42 30 1 _ _ Try.underlying42 (by kernel_rfl)) ?_)
      clear hS; intro w r_169 g_170 hg_171 hS
      refine ⟨.inl (hS.pick [3, 4]), ?_⟩
      refine K.DW.l 14 rfl (by kernel_rfl) (by kernel_rfl) (K.OW.gcall hS [2, 0, 1] [3, 4, 5] [.slice ra_158 Lr_160.length c_159, .slice (some ⟨r_169, 0, none⟩) 1 1] (in25_ok _ ra_158 c_159 Lr_160 hln_166 _ (fun w h => K.RowE.len (K.Own.rowE dStE (h.ownr 0 rfl o_162) rfl (fun _ => rfl)) rfl) (some ⟨r_169, 0, none⟩) 1 [(⟨q_22, cq_23, s_24, cs_25, m_26, cm_27, T_21⟩ : StE)] (Nat.le_of_ble_eq_true rfl) _ (fun w h => K.Blk.rowE (c := cStE) dStE (L := [(⟨q_22, cq_23, s_24, cs_25, m_26, cm_27, T_21⟩ : StE)]) (h.blk 0 rfl hg_171) (fun _ => rfl) rfl) _ hal_163 (AllRd.one hr_168) (sz_one (hgd_29.le (by decide)))) ?_)
      clear hS; rintro _ _ w ⟨rfl, (⟨h_172, rfl⟩ | ⟨h_173, rfl⟩)⟩ hS
      ·
       replace hS : K.Sat w0 [go_157, g_170, g_156, g_115, g_2, fr] w := hS
       refine ⟨.inl (hS.pick [3, 4]), ?_⟩
       refine K.b 15 rfl (.bool true) (hS.pick [3, 4]) ?_
       refine K.b 16 rfl (.bool true) (hS.pick [3, 4]) ?_
       refine K.DW.done (by kernel_rfl) ?_
       refine K.t (K.r ?_)
       refine ⟨.inr rfl, rfl, (.bool true), K.res1 rfl rfl, [], ?_, hS.pick [5]⟩
       exact rfl
      ·
       refine absurd (fun i hi => ?_) h_173; have hi : i < 1 := hi; obtain rfl : i = 0 := (by omega); exact inE_iff.2 (by rw [hst_165]; exact dedN_mem.2 (wit_end h2_16 ho_18 hn_20 hT_28))
    ·
     refine (K.OW.gbs [(0, .agg #[.slice q_22 T_21.q.length cq_23, .slice s_24 T_21.s.length cs_25, .slice m_26 T_21.m.length cm_27])] [.slice q_22 T_21.q.length cq_23, .slice s_24 T_21.s.length cs_25, .slice m_26 T_21.m.length cm_27] hS (fun w => K.bs_run (P := Try.prog) w 42 30 1 _ _ Try.underlying42 (by kernel_rfl)) ?_)
     clear hS; intro w r_174 g_175 hg_176 hS
     refine ⟨.inl (hS.pick [2, 3]), ?_⟩
     refine K.DW.l 11 rfl (by kernel_rfl) (by kernel_rfl) (K.OW.gcall hS [1, 55] [0, 2, 3, 4] [.agg #[.slice q S.q.length cq, .slice s S.s.length cs, .slice mm S.m.length cm], .slice a L.length cap] (wends_ok _ _ _ L (by omega) _ (fun w h => ha.no h.chg) q s mm cq cs cm S (by omega) (by omega) _ hr_150 (by omega) (by omega) (by omega)) ?_)
     clear hS; rintro _ _ w (⟨h_177, rfl, rfl⟩ | ⟨h_178, h2_179, h3_180, g_181, go_182, ra_183, c_184, Lr_185, rfl, hg_186, rfl, o_187, hal_188, hsz_189, hst_190, hln_191⟩) hS
     ·
      exact h_177.elim (fun h9 => absurd h_15 h9) (fun h9 => h9.elim (fun h9 => absurd h2_16 h9) (fun h9 => by omega))
     ·
      have hr_192 := hr_150.mono hg_186
      have hr_193 := hr_151.mono hg_186
      replace hS : K.Sat w0 [g_181, go_182, g_175, g_115, g_2, fr] w := hS.of (by simp [K.pick, K.nth])
      refine ⟨.inl (hS.pick [3, 4]), ?_⟩
      refine K.DW.l 14 rfl (by kernel_rfl) (by kernel_rfl) (K.OW.gcall hS [1, 2, 0] [3, 4, 5] [.slice ra_183 Lr_185.length c_184, .slice (some ⟨r_174, 0, none⟩) 1 1] (in25_ok _ ra_183 c_184 Lr_185 hln_191 _ (fun w h => K.RowE.len (K.Own.rowE dStE (h.ownr 0 rfl o_187) rfl (fun _ => rfl)) rfl) (some ⟨r_174, 0, none⟩) 1 [(⟨q_22, cq_23, s_24, cs_25, m_26, cm_27, T_21⟩ : StE)] (Nat.le_of_ble_eq_true rfl) _ (fun w h => K.Blk.rowE (c := cStE) dStE (L := [(⟨q_22, cq_23, s_24, cs_25, m_26, cm_27, T_21⟩ : StE)]) (h.blk 0 rfl hg_176) (fun _ => rfl) rfl) _ hal_188 (AllRd.one hr_193) (sz_one (hgd_29.le (by decide)))) ?_)
      clear hS; rintro _ _ w ⟨rfl, (⟨h_194, rfl⟩ | ⟨h_195, rfl⟩)⟩ hS
      ·
       replace hS : K.Sat w0 [go_182, g_175, g_181, g_115, g_2, fr] w := hS
       refine ⟨.inl (hS.pick [3, 4]), ?_⟩
       refine K.b 15 rfl (.bool true) (hS.pick [3, 4]) ?_
       refine K.b 16 rfl (.bool true) (hS.pick [3, 4]) ?_
       refine K.DW.done (by kernel_rfl) ?_
       refine K.t (K.r ?_)
       refine ⟨.inr rfl, rfl, (.bool true), K.res1 rfl rfl, [], ?_, hS.pick [5]⟩
       exact rfl
      ·
       refine absurd (fun i hi => ?_) h_195; have hi : i < 1 := hi; obtain rfl : i = 0 := (by omega); exact inE_iff.2 (by rw [hst_190]; exact dedN_mem.2 (wit_end h2_16 ho_18 hn_20 hT_28))
 ·
  replace hS : K.Sat w0 [g_2, g, fr] w := hS
  refine K.q [.bool true] (K.z (K.t (K.h (K.s (K.g ?_)))))
  refine K.l (K.OW.gcall hS [] [0, 1, 2] [] (awake25_ok _) ?_)
  clear hS; rintro _ _ w ⟨rfl, rfl⟩ hS
  replace hS : K.Sat w0 [g_2, g, fr] w := hS
  refine K.q [.bool true] (K.z (K.t (K.r (K.u ?_))))
  refine ⟨.inr rfl, rfl, (.bool true), K.res1 rfl rfl, [], ?_, hS.pick [2]⟩
  exact rfl
end Go.Proofs.Ytnehocjmgnhhhaa
