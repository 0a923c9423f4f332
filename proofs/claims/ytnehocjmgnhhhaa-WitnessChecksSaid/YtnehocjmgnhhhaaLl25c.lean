import Derived.Test.YtnehocjmgnhhhaaFsa25
import Derived.Test.YtnehocjmgnhhhaaKn
/- The statement WitnessChecks. -/
namespace Go.Proofs.Ytnehocjmgnhhhaa
open Go.RowKit
set_option linter.unusedVariables false
attribute [local irreducible] K.KW K.RW K.DW K.OW K.QR K.KC
set_option maxHeartbeats 16000000 in
set_option maxRecDepth 100000 in
theorem lawwc_ok (w0 : World) (q s mm a : Option Addr) (cq cs cm cap : Nat) (S : StM) (L : List CallM) (x1 : RU32 w0 q S.q) (x2 : RU32 w0 s S.s) (x3 : RPr w0 mm S.m) (hcq : S.q.length ≤ cq) (ha : K.RowE w0 a L.length 11 (fun i => cCall (L.getD i call0))) :
  K.GC Try.prog w0 4 #[.agg #[.slice q S.q.length cq, .slice s S.s.length cs, .slice mm S.m.length cm], .slice a L.length cap] [] (fun v post => v = .bool true) := by
 refine K.GC.mk (n := 60) Try.func4 rfl rfl [.agg #[.slice q S.q.length cq, .slice s S.s.length cs, .slice mm S.m.length cm], .slice a L.length cap] rfl rfl ?_
 intro fr w hS
 replace hS : K.Sat w0 [fr] w := hS
 obtain ⟨g, hg⟩ : ∃ g : K.Cs, g = [] := ⟨_, rfl⟩
 have x : RdSt w0 g q s mm cq S := ⟨fun _ h => x1.no h.chg, fun _ h => x2.no h.chg, fun _ h => x3.no h.chg, hcq⟩
 replace hS : K.Sat w0 [g, fr] w := hS.of (by simp [hg])
 refine K.s (K.g ?_)
 refine K.l (K.OW.gnew 30 [.slice q S.q.length cq, .slice s S.s.length cs, .slice mm S.m.length cm] hS ?_)
 clear hS; intro w r_1 g_2 hg_3 hS
 refine K.q [.bool false] (K.z (K.t (K.s (K.s (K.g ?_)))))
 refine K.a (K.QR.ldN [.slice q S.q.length cq, .slice s S.s.length cs, .slice mm S.m.length cm] rfl rfl (by kernel_rfl) (by kernel_rfl) (K.cells (K.cl ((hS.blk 0 rfl hg_3).cell rfl) (K.cl ((hS.blk 0 rfl hg_3).cell rfl) (K.cl ((hS.blk 0 rfl hg_3).cell rfl) K.cl0))))) ?_
 refine K.q [.slice a L.length cap] ?_
 refine K.l (K.OW.gcall hS [] [0, 1, 2] [.agg #[.slice q S.q.length cq, .slice s S.s.length cs, .slice mm S.m.length cm], .slice a L.length cap] (few25_ok _ q s mm a cq cs cm cap S L) ?_)
 clear hS; rintro _ _ w ⟨rfl, (⟨h_4, rfl⟩ | ⟨h_5, rfl⟩)⟩ hS
 ·
  replace hS : K.Sat w0 [g_2, g, fr] w := hS
  refine K.q [.bool false] (K.z (K.t (K.f (K.k (K.t (K.s (K.g ?_)))))))
  refine K.a (K.QR.ldN [.slice q S.q.length cq, .slice s S.s.length cs, .slice mm S.m.length cm] rfl rfl (by kernel_rfl) (by kernel_rfl) (K.cells (K.cl ((hS.blk 0 rfl hg_3).cell rfl) (K.cl ((hS.blk 0 rfl hg_3).cell rfl) (K.cl ((hS.blk 0 rfl hg_3).cell rfl) K.cl0))))) ?_
  refine K.q [.slice a L.length cap] ?_
  refine K.l (K.OW.gcall hS [1, 53] [0, 2] [.agg #[.slice q S.q.length cq, .slice s S.s.length cs, .slice mm S.m.length cm], .slice a L.length cap] (check_ok _ _ _ L (by omega) _ (fun w h => ha.no h.chg) q s mm cq cs cm S (by omega) (by omega) _ x (by omega) (by omega) (by omega) (by omega)) ?_)
  clear hS; rintro _ _ w ⟨g_31, rfl, hg_32, (⟨h_6, rfl⟩ | ⟨h_7, h2_8, rfl⟩ | ⟨h_9, h2_10, Q_11, ho_12, hl_13, hn_14, rfl⟩ | ⟨h_15, h2_16, Q_17, ho_18, hl_19, hn_20, T_21, q_22, cq_23, s_24, cs_25, m_26, cm_27, hT_28, hgd_29, rfl, hx_30⟩)⟩ hS
  ·
   have hr_33 := x.mono hg_32
   replace hS : K.Sat w0 [g_31, g_2, fr] w := hS.of (by simp [K.pick, K.nth])
   refine K.q [.tuple #[.agg #[.slice none 0 0, .slice none 0 0, .slice none 0 0], .int .i64 1], .agg #[.slice none 0 0, .slice none 0 0, .slice none 0 0], .int .i64 1] ?_
   refine K.l (K.OW.gnew 30 [.slice none 0 0, .slice none 0 0, .slice none 0 0] hS ?_)
   clear hS; intro w r_34 g_35 hg_36 hS
   refine K.l (K.OW.gst 0 [.slice none 0 0, .slice none 0 0, .slice none 0 0] _ hS hg_36 ?_)
   clear hS; intro w g_37 hg_38 hS
   replace hS : K.Sat w0 [g_37, g_31, g_2, fr] w := hS
   refine K.q [.int .i64 1] (K.z (K.t (K.s (K.g (K.q [.int .i64 0] (K.z (K.t (K.s (K.g (K.q [.slice a L.length cap] ?_))))))))))
   refine K.l (K.OW.gcall hS [54] [0, 1, 2, 3] [.slice a L.length cap] (dorder_ok _ _ _ L (by omega) _ (fun w h => ha.no h.chg)) ?_)
   clear hS; rintro _ _ w ⟨r_39, g_40, k_41, Q_42, rfl, rfl, o_43, ho_44, hl_45⟩ hS
   replace hS : K.Sat w0 [g_40, g_37, g_31, g_2, fr] w := hS.of (by simp [K.pick, K.nth])
   refine K.q [.slice r_39 Q_42.length k_41] (K.z (K.t (K.s (K.g ?_))))
   refine K.a (K.QR.bd [] [.slice none 0 0, .slice none 0 0, .slice none 0 0] rfl rfl (by kernel_rfl)) ?_
   refine K.l (K.OW.gnew 30 [.slice none 0 0, .slice none 0 0, .slice none 0 0] hS ?_)
   clear hS; intro w r_46 g_47 hg_48 hS
   refine K.l (K.OW.gst 0 [.slice none 0 0, .slice none 0 0, .slice none 0 0] _ hS hg_48 ?_)
   clear hS; intro w g_49 hg_50 hS
   replace hS : K.Sat w0 [g_49, g_40, g_37, g_31, g_2, fr] w := hS
   refine K.z (K.t (K.s (K.s (K.g ?_))))
   refine K.a (K.QR.ldN [.slice q S.q.length cq, .slice s S.s.length cs, .slice mm S.m.length cm] rfl rfl (by kernel_rfl) (by kernel_rfl) (K.cells (K.cl ((hS.blk 4 rfl hg_3).cell rfl) (K.cl ((hS.blk 4 rfl hg_3).cell rfl) (K.cl ((hS.blk 4 rfl hg_3).cell rfl) K.cl0))))) ?_
   refine K.l (K.OW.gcall hS [3] [0, 1, 2, 4, 5] [.agg #[.slice q S.q.length cq, .slice s S.s.length cs, .slice mm S.m.length cm]] (drightS_ok _ q s mm cq cs cm S _ hr_33 (by omega) (by omega)) ?_)
   clear hS; rintro _ _ w ⟨rfl, (⟨h_51, rfl⟩ | ⟨h_52, rfl⟩)⟩ hS
   ·
    exact absurd h_51 h_6
   ·
    replace hS : K.Sat w0 [g_31, g_49, g_40, g_37, g_2, fr] w := hS
    refine K.q [.bool true] (K.z (K.t (K.h (K.g (K.q [.int .i64 1] (K.z (K.t (K.s (K.g ?_)))))))))
    refine K.l (K.OW.gcall hS [] [0, 1, 2, 3, 4, 5] [] (awake25_ok _) ?_)
    clear hS; rintro _ _ w ⟨rfl, rfl⟩ hS
    replace hS : K.Sat w0 [g_31, g_49, g_40, g_37, g_2, fr] w := hS
    refine K.q [.bool true, .int .i64 1, .int .i64 1, .bool true, .bool true, .bool true] ?_
    refine K.a (K.QR.ldN [.slice none 0 0, .slice none 0 0, .slice none 0 0] rfl rfl (by kernel_rfl) (by kernel_rfl) (K.cells (K.cl ((hS.blk 3 rfl hg_38).cell rfl) (K.cl ((hS.blk 3 rfl hg_38).cell rfl) (K.cl ((hS.blk 3 rfl hg_38).cell rfl) K.cl0))))) ?_
    refine K.a (K.QR.ldN [.slice none 0 0, .slice none 0 0, .slice none 0 0] rfl rfl (by kernel_rfl) (by kernel_rfl) (K.cells (K.cl ((hS.blk 1 rfl hg_50).cell rfl) (K.cl ((hS.blk 1 rfl hg_50).cell rfl) (K.cl ((hS.blk 1 rfl hg_50).cell rfl) K.cl0))))) ?_
    refine K.l (K.OW.gcall hS [0] [1, 2, 3, 4, 5] [.agg #[.slice none 0 0, .slice none 0 0, .slice none 0 0], .agg #[.slice none 0 0, .slice none 0 0, .slice none 0 0]] (sameS_ok _ none none none none none none 0 0 0 0 0 0 st0 st0 _ (rdz w0 _) (rdz w0 _) (by decide) (by decide) (by decide)) ?_)
    clear hS; rintro _ _ w ⟨rfl, (⟨h_53, rfl⟩ | ⟨h_54, rfl⟩)⟩ hS
    ·
     replace hS : K.Sat w0 [g_31, g_49, g_40, g_37, g_2, fr] w := hS
     refine K.q [.bool true, .bool true] (K.z (K.t (K.r ?_)))
     refine ⟨.inr rfl, rfl, (.bool true), K.res1 rfl rfl, [], ?_, hS.pick [5]⟩
     exact rfl
    ·
     exact absurd rfl h_54
  ·
   have hr_55 := x.mono hg_32
   replace hS : K.Sat w0 [g_31, g_2, fr] w := hS.of (by simp [K.pick, K.nth])
   refine K.q [.tuple #[.agg #[.slice none 0 0, .slice none 0 0, .slice none 0 0], .int .i64 3], .agg #[.slice none 0 0, .slice none 0 0, .slice none 0 0], .int .i64 3] ?_
   refine K.l (K.OW.gnew 30 [.slice none 0 0, .slice none 0 0, .slice none 0 0] hS ?_)
   clear hS; intro w r_56 g_57 hg_58 hS
   refine K.l (K.OW.gst 0 [.slice none 0 0, .slice none 0 0, .slice none 0 0] _ hS hg_58 ?_)
   clear hS; intro w g_59 hg_60 hS
   replace hS : K.Sat w0 [g_59, g_31, g_2, fr] w := hS
   refine K.q [.int .i64 3] (K.z (K.t (K.s (K.g (K.q [.int .i64 0] (K.z (K.t (K.s (K.g (K.q [.slice a L.length cap] ?_))))))))))
   refine K.l (K.OW.gcall hS [54] [0, 1, 2, 3] [.slice a L.length cap] (dorder_ok _ _ _ L (by omega) _ (fun w h => ha.no h.chg)) ?_)
   clear hS; rintro _ _ w ⟨r_61, g_62, k_63, Q_64, rfl, rfl, o_65, ho_66, hl_67⟩ hS
   replace hS : K.Sat w0 [g_62, g_59, g_31, g_2, fr] w := hS.of (by simp [K.pick, K.nth])
   refine K.q [.slice r_61 Q_64.length k_63] (K.z (K.t (K.s (K.g ?_))))
   refine K.a (K.QR.bd [] [.slice none 0 0, .slice none 0 0, .slice none 0 0] rfl rfl (by kernel_rfl)) ?_
   refine K.l (K.OW.gnew 30 [.slice none 0 0, .slice none 0 0, .slice none 0 0] hS ?_)
   clear hS; intro w r_68 g_69 hg_70 hS
   refine K.l (K.OW.gst 0 [.slice none 0 0, .slice none 0 0, .slice none 0 0] _ hS hg_70 ?_)
   clear hS; intro w g_71 hg_72 hS
   replace hS : K.Sat w0 [g_71, g_62, g_59, g_31, g_2, fr] w := hS
   refine K.z (K.t (K.s (K.s (K.g ?_))))
   refine K.a (K.QR.ldN [.slice q S.q.length cq, .slice s S.s.length cs, .slice mm S.m.length cm] rfl rfl (by kernel_rfl) (by kernel_rfl) (K.cells (K.cl ((hS.blk 4 rfl hg_3).cell rfl) (K.cl ((hS.blk 4 rfl hg_3).cell rfl) (K.cl ((hS.blk 4 rfl hg_3).cell rfl) K.cl0))))) ?_
   refine K.l (K.OW.gcall hS [3] [0, 1, 2, 4, 5] [.agg #[.slice q S.q.length cq, .slice s S.s.length cs, .slice mm S.m.length cm]] (drightS_ok _ q s mm cq cs cm S _ hr_55 (by omega) (by omega)) ?_)
   clear hS; rintro _ _ w ⟨rfl, (⟨h_73, rfl⟩ | ⟨h_74, rfl⟩)⟩ hS
   ·
    replace hS : K.Sat w0 [g_31, g_71, g_62, g_59, g_2, fr] w := hS
    refine K.q [.bool false] (K.z (K.t (K.f (K.s (K.g (K.q [.slice a L.length cap] ?_))))))
    refine K.l (K.OW.gcall hS [56] [0, 1, 2, 3, 4, 5] [.slice a L.length cap] (dhright_ok _ _ _ L (by omega) _ (fun w h => ha.no h.chg)) ?_)
    clear hS; rintro _ _ w ⟨rfl, (⟨h_75, rfl⟩ | ⟨h_76, rfl⟩)⟩ hS
    ·
     exact absurd h_75 h2_8
    ·
     replace hS : K.Sat w0 [g_31, g_71, g_62, g_59, g_2, fr] w := hS.of (by simp [K.pick, K.nth])
     refine K.q [.bool true] (K.z (K.t (K.h (K.g (K.q [.int .i64 3] (K.z (K.t (K.s (K.g ?_)))))))))
     refine K.l (K.OW.gcall hS [] [0, 1, 2, 3, 4, 5] [] (awake25_ok _) ?_)
     clear hS; rintro _ _ w ⟨rfl, rfl⟩ hS
     replace hS : K.Sat w0 [g_31, g_71, g_62, g_59, g_2, fr] w := hS
     refine K.q [.bool true, .int .i64 3, .int .i64 3, .bool true, .bool true, .bool true] ?_
     refine K.a (K.QR.ldN [.slice none 0 0, .slice none 0 0, .slice none 0 0] rfl rfl (by kernel_rfl) (by kernel_rfl) (K.cells (K.cl ((hS.blk 3 rfl hg_60).cell rfl) (K.cl ((hS.blk 3 rfl hg_60).cell rfl) (K.cl ((hS.blk 3 rfl hg_60).cell rfl) K.cl0))))) ?_
     refine K.a (K.QR.ldN [.slice none 0 0, .slice none 0 0, .slice none 0 0] rfl rfl (by kernel_rfl) (by kernel_rfl) (K.cells (K.cl ((hS.blk 1 rfl hg_72).cell rfl) (K.cl ((hS.blk 1 rfl hg_72).cell rfl) (K.cl ((hS.blk 1 rfl hg_72).cell rfl) K.cl0))))) ?_
     refine K.l (K.OW.gcall hS [0] [1, 2, 3, 4, 5] [.agg #[.slice none 0 0, .slice none 0 0, .slice none 0 0], .agg #[.slice none 0 0, .slice none 0 0, .slice none 0 0]] (sameS_ok _ none none none none none none 0 0 0 0 0 0 st0 st0 _ (rdz w0 _) (rdz w0 _) (by decide) (by decide) (by decide)) ?_)
     clear hS; rintro _ _ w ⟨rfl, (⟨h_77, rfl⟩ | ⟨h_78, rfl⟩)⟩ hS
     ·
      replace hS : K.Sat w0 [g_31, g_71, g_62, g_59, g_2, fr] w := hS
      refine K.q [.bool true, .bool true] (K.z (K.t (K.r ?_)))
      refine ⟨.inr rfl, rfl, (.bool true), K.res1 rfl rfl, [], ?_, hS.pick [5]⟩
      exact rfl
     ·
      exact absurd rfl h_78
   ·
    exact absurd h_7 h_74
  ·
   have hr_79 := x.mono hg_32
   replace hS : K.Sat w0 [g_31, g_2, fr] w := hS.of (by simp [K.pick, K.nth])
   refine K.q [.tuple #[.agg #[.slice none 0 0, .slice none 0 0, .slice none 0 0], .int .i64 9], .agg #[.slice none 0 0, .slice none 0 0, .slice none 0 0], .int .i64 9] ?_
   refine K.l (K.OW.gnew 30 [.slice none 0 0, .slice none 0 0, .slice none 0 0] hS ?_)
   clear hS; intro w r_80 g_81 hg_82 hS
   refine K.l (K.OW.gst 0 [.slice none 0 0, .slice none 0 0, .slice none 0 0] _ hS hg_82 ?_)
   clear hS; intro w g_83 hg_84 hS
   replace hS : K.Sat w0 [g_83, g_31, g_2, fr] w := hS
   refine K.q [.int .i64 9] (K.z (K.t (K.s (K.g (K.q [.int .i64 0] (K.z (K.t (K.s (K.g (K.q [.slice a L.length cap] ?_))))))))))
   refine K.l (K.OW.gcall hS [54] [0, 1, 2, 3] [.slice a L.length cap] (dorder_ok _ _ _ L (by omega) _ (fun w h => ha.no h.chg)) ?_)
   clear hS; rintro _ _ w ⟨r_85, g_86, k_87, Q_88, rfl, rfl, o_89, ho_90, hl_91⟩ hS
   replace hS : K.Sat w0 [g_86, g_83, g_31, g_2, fr] w := hS.of (by simp [K.pick, K.nth])
   refine K.q [.slice r_85 Q_88.length k_87] (K.z (K.t (K.s ?_)))
   have hQR := ho_12.uniq ho_90
   refine K.g ?_
   refine K.a (K.QR.bd [] [.slice none 0 0, .slice none 0 0, .slice none 0 0] rfl rfl (by kernel_rfl)) ?_
   refine K.l (K.OW.gnew 30 [.slice none 0 0, .slice none 0 0, .slice none 0 0] hS ?_)
   clear hS; intro w r_92 g_93 hg_94 hS
   refine K.l (K.OW.gst 0 [.slice none 0 0, .slice none 0 0, .slice none 0 0] _ hS hg_94 ?_)
   clear hS; intro w g_95 hg_96 hS
   replace hS : K.Sat w0 [g_95, g_86, g_83, g_31, g_2, fr] w := hS
   refine K.z (K.t (K.s (K.s (K.g ?_))))
   refine K.a (K.QR.ldN [.slice q S.q.length cq, .slice s S.s.length cs, .slice mm S.m.length cm] rfl rfl (by kernel_rfl) (by kernel_rfl) (K.cells (K.cl ((hS.blk 4 rfl hg_3).cell rfl) (K.cl ((hS.blk 4 rfl hg_3).cell rfl) (K.cl ((hS.blk 4 rfl hg_3).cell rfl) K.cl0))))) ?_
   refine K.l (K.OW.gcall hS [3] [0, 1, 2, 4, 5] [.agg #[.slice q S.q.length cq, .slice s S.s.length cs, .slice mm S.m.length cm]] (drightS_ok _ q s mm cq cs cm S _ hr_79 (by omega) (by omega)) ?_)
   clear hS; rintro _ _ w ⟨rfl, (⟨h_97, rfl⟩ | ⟨h_98, rfl⟩)⟩ hS
   ·
    replace hS : K.Sat w0 [g_31, g_95, g_86, g_83, g_2, fr] w := hS
    refine K.q [.bool false] (K.z (K.t (K.f (K.s (K.g (K.q [.slice a L.length cap] ?_))))))
    refine K.l (K.OW.gcall hS [56] [0, 1, 2, 3, 4, 5] [.slice a L.length cap] (dhright_ok _ _ _ L (by omega) _ (fun w h => ha.no h.chg)) ?_)
    clear hS; rintro _ _ w ⟨rfl, (⟨h_99, rfl⟩ | ⟨h_100, rfl⟩)⟩ hS
    ·
     replace hS : K.Sat w0 [g_31, g_95, g_86, g_83, g_2, fr] w := hS.of (by simp [K.pick, K.nth])
     refine K.q [.bool false] (K.z (K.t (K.f (K.s (K.g ?_)))))
     refine K.a (K.QR.ldN [.slice q S.q.length cq, .slice s S.s.length cs, .slice mm S.m.length cm] rfl rfl (by kernel_rfl) (by kernel_rfl) (K.cells (K.cl ((hS.blk 4 rfl hg_3).cell rfl) (K.cl ((hS.blk 4 rfl hg_3).cell rfl) (K.cl ((hS.blk 4 rfl hg_3).cell rfl) K.cl0))))) ?_
     refine K.q [.slice a L.length cap, .slice r_85 Q_88.length k_87] ?_
     refine K.l (K.OW.gcall hS [0, 56, 2] [1, 3, 4, 5] [.agg #[.slice q S.q.length cq, .slice s S.s.length cs, .slice mm S.m.length cm], .slice a L.length cap, .slice r_85 Q_88.length k_87] (run_ok _ _ _ _ _ L Q_88 (by omega) _ (fun w h => ha.no h.chg) q s mm cq cs cm S (by omega) (by omega) _ hr_79 _ (fun w h => K.RowE.len (K.Own.rowE 0 (h.ownr 0 rfl o_89) rfl (fun _ => rfl)) rfl) (by omega) (by omega) (by omega) (by omega) (by omega) h_97 (isOrd.val ho_90) (right_kind h_99)) ?_)
     clear hS; rintro _ _ w ⟨g_112, rfl, hg_113, (⟨h_101, rfl⟩ | ⟨T_102, q_103, cq_104, s_105, cs_106, m_107, cm_108, h_109, hgd_110, rfl, hx_111⟩)⟩ hS
     ·
      have hr_114 := hr_79.mono hg_113
      replace hS : K.Sat w0 [g_112, g_86, g_95, g_83, g_2, fr] w := hS.of (by simp [K.pick, K.nth])
      refine K.q [.tuple #[.agg #[.slice none 0 0, .slice none 0 0, .slice none 0 0], .bool false], .agg #[.slice none 0 0, .slice none 0 0, .slice none 0 0], .bool false] ?_
      refine K.l (K.OW.gnew 30 [.slice none 0 0, .slice none 0 0, .slice none 0 0] hS ?_)
      clear hS; intro w r_115 g_116 hg_117 hS
      refine K.l (K.OW.gst 0 [.slice none 0 0, .slice none 0 0, .slice none 0 0] _ hS hg_117 ?_)
      clear hS; intro w g_118 hg_119 hS
      replace hS : K.Sat w0 [g_118, g_112, g_86, g_95, g_83, g_2, fr] w := hS
      refine K.q [.bool false] (K.z (K.t (K.s (K.g ?_))))
      refine K.a (K.QR.ldN [.slice none 0 0, .slice none 0 0, .slice none 0 0] rfl rfl (by kernel_rfl) (by kernel_rfl) (K.cells (K.cl ((hS.blk 0 rfl hg_119).cell rfl) (K.cl ((hS.blk 0 rfl hg_119).cell rfl) (K.cl ((hS.blk 0 rfl hg_119).cell rfl) K.cl0))))) ?_
      refine K.l (K.OW.gst 3 [.slice none 0 0, .slice none 0 0, .slice none 0 0] _ hS hg_96 ?_)
      clear hS; intro w g_120 hg_121 hS
      replace hS : K.Sat w0 [g_118, g_112, g_86, g_120, g_83, g_2, fr] w := hS
      refine K.z (K.t (K.s ?_))
      have hqle := o_89.le
      refine K.g (K.q [.bool false, .bool true, .bool true] (K.n_ (K.n_ (K.n_ (K.n_ (K.q [.bool true] (K.z (K.t (K.h (K.s (K.g (K.q [.int .i64 9] (K.z (K.t ?_))))))))))))))
      refine K.g ?_
      refine K.a (K.QR.bd [] [.slice none 0 0, .slice none 0 0, .slice none 0 0] rfl rfl (by kernel_rfl)) ?_
      refine K.l (K.OW.gst 3 [.slice none 0 0, .slice none 0 0, .slice none 0 0] _ hS hg_121 ?_)
      clear hS; intro w g_122 hg_123 hS
      replace hS : K.Sat w0 [g_118, g_112, g_86, g_122, g_83, g_2, fr] w := hS
      refine K.z (K.t (K.s (K.g ?_)))
      refine K.l (K.OW.gcall hS [] [0, 1, 2, 3, 4, 5, 6] [] (awake25_ok _) ?_)
      clear hS; rintro _ _ w ⟨rfl, rfl⟩ hS
      replace hS : K.Sat w0 [g_118, g_112, g_86, g_122, g_83, g_2, fr] w := hS
      refine K.q [.bool true, .int .i64 9, .int .i64 9, .bool true, .bool true, .bool true] ?_
      refine K.a (K.QR.ldN [.slice none 0 0, .slice none 0 0, .slice none 0 0] rfl rfl (by kernel_rfl) (by kernel_rfl) (K.cells (K.cl ((hS.blk 4 rfl hg_84).cell rfl) (K.cl ((hS.blk 4 rfl hg_84).cell rfl) (K.cl ((hS.blk 4 rfl hg_84).cell rfl) K.cl0))))) ?_
      refine K.a (K.QR.ldN [.slice none 0 0, .slice none 0 0, .slice none 0 0] rfl rfl (by kernel_rfl) (by kernel_rfl) (K.cells (K.cl ((hS.blk 3 rfl hg_123).cell rfl) (K.cl ((hS.blk 3 rfl hg_123).cell rfl) (K.cl ((hS.blk 3 rfl hg_123).cell rfl) K.cl0))))) ?_
      refine K.l (K.OW.gcall hS [1] [0, 2, 3, 4, 5, 6] [.agg #[.slice none 0 0, .slice none 0 0, .slice none 0 0], .agg #[.slice none 0 0, .slice none 0 0, .slice none 0 0]] (sameS_ok _ none none none none none none 0 0 0 0 0 0 st0 st0 _ (rdz w0 _) (rdz w0 _) (by decide) (by decide) (by decide)) ?_)
      clear hS; rintro _ _ w ⟨rfl, (⟨h_124, rfl⟩ | ⟨h_125, rfl⟩)⟩ hS
      ·
       replace hS : K.Sat w0 [g_112, g_118, g_86, g_122, g_83, g_2, fr] w := hS
       refine K.q [.bool true, .bool true] (K.z (K.t (K.r ?_)))
       refine ⟨.inr rfl, rfl, (.bool true), K.res1 rfl rfl, [], ?_, hS.pick [6]⟩
       exact rfl
      ·
       exact absurd rfl h_125
     ·
      have hr_126 := hr_79.mono hg_113
      replace hS : K.Sat w0 [g_112, g_86, g_95, g_83, g_2, fr] w := hS.of (by simp [K.pick, K.nth])
      refine K.q [.tuple #[.agg #[.slice q_103 T_102.q.length cq_104, .slice s_105 T_102.s.length cs_106, .slice m_107 T_102.m.length cm_108], .bool true], .agg #[.slice q_103 T_102.q.length cq_104, .slice s_105 T_102.s.length cs_106, .slice m_107 T_102.m.length cm_108], .bool true] ?_
      refine K.l (K.OW.gnew 30 [.slice none 0 0, .slice none 0 0, .slice none 0 0] hS ?_)
      clear hS; intro w r_127 g_128 hg_129 hS
      refine K.l (K.OW.gst 0 [.slice q_103 T_102.q.length cq_104, .slice s_105 T_102.s.length cs_106, .slice m_107 T_102.m.length cm_108] _ hS hg_129 ?_)
      clear hS; intro w g_130 hg_131 hS
      replace hS : K.Sat w0 [g_130, g_112, g_86, g_95, g_83, g_2, fr] w := hS
      refine K.q [.bool true] (K.z (K.t (K.s (K.g ?_))))
      refine K.a (K.QR.ldN [.slice q_103 T_102.q.length cq_104, .slice s_105 T_102.s.length cs_106, .slice m_107 T_102.m.length cm_108] rfl rfl (by kernel_rfl) (by kernel_rfl) (K.cells (K.cl ((hS.blk 0 rfl hg_131).cell rfl) (K.cl ((hS.blk 0 rfl hg_131).cell rfl) (K.cl ((hS.blk 0 rfl hg_131).cell rfl) K.cl0))))) ?_
      refine K.l (K.OW.gst 3 [.slice q_103 T_102.q.length cq_104, .slice s_105 T_102.s.length cs_106, .slice m_107 T_102.m.length cm_108] _ hS hg_96 ?_)
      clear hS; intro w g_132 hg_133 hS
      replace hS : K.Sat w0 [g_130, g_112, g_86, g_132, g_83, g_2, fr] w := hS
      refine K.z (K.t (K.s ?_))
      have hqle := o_89.le
      refine K.g (K.q [.bool true, .bool false, .bool false, .slice a L.length cap, .slice r_85 Q_88.length k_87] ?_)
      refine K.l (K.OW.gcall hS [57, 2] [0, 1, 3, 4, 5, 6] [.slice a L.length cap, .slice r_85 Q_88.length k_87] (drsp_ok _ _ _ _ _ L Q_88 (by omega) (by omega) _ (fun w h => ha.no h.chg) _ (fun w h => K.RowE.len (K.Own.rowE 0 (h.ownr 0 rfl o_89) rfl (fun _ => rfl)) rfl) (by omega)) ?_)
      clear hS; rintro _ _ w ⟨rfl, (⟨h_134, rfl⟩ | ⟨h_135, rfl⟩)⟩ hS
      ·
       rw [← hQR] at h_134; exact hn_14.elim (fun h9 => absurd h_134 h9) (fun h9 => by have h8 := h_109; rw [← hQR, h9] at h8; cases h8)
      ·
       replace hS : K.Sat w0 [g_86, g_130, g_112, g_132, g_83, g_2, fr] w := hS.of (by simp [K.pick, K.nth])
       refine K.q [.bool true, .bool true] (K.z (K.t (K.h (K.s (K.g (K.q [.int .i64 9] (K.z (K.t (K.g ?_)))))))))
       refine K.a (K.QR.bd [] [.slice none 0 0, .slice none 0 0, .slice none 0 0] rfl rfl (by kernel_rfl)) ?_
       refine K.l (K.OW.gst 3 [.slice none 0 0, .slice none 0 0, .slice none 0 0] _ hS hg_133 ?_)
       clear hS; intro w g_136 hg_137 hS
       replace hS : K.Sat w0 [g_86, g_130, g_112, g_136, g_83, g_2, fr] w := hS
       refine K.z (K.t (K.s (K.g ?_)))
       refine K.l (K.OW.gcall hS [] [0, 1, 2, 3, 4, 5, 6] [] (awake25_ok _) ?_)
       clear hS; rintro _ _ w ⟨rfl, rfl⟩ hS
       replace hS : K.Sat w0 [g_86, g_130, g_112, g_136, g_83, g_2, fr] w := hS
       refine K.q [.bool true, .int .i64 9, .int .i64 9, .bool true, .bool true, .bool true] ?_
       refine K.a (K.QR.ldN [.slice none 0 0, .slice none 0 0, .slice none 0 0] rfl rfl (by kernel_rfl) (by kernel_rfl) (K.cells (K.cl ((hS.blk 4 rfl hg_84).cell rfl) (K.cl ((hS.blk 4 rfl hg_84).cell rfl) (K.cl ((hS.blk 4 rfl hg_84).cell rfl) K.cl0))))) ?_
       refine K.a (K.QR.ldN [.slice none 0 0, .slice none 0 0, .slice none 0 0] rfl rfl (by kernel_rfl) (by kernel_rfl) (K.cells (K.cl ((hS.blk 3 rfl hg_137).cell rfl) (K.cl ((hS.blk 3 rfl hg_137).cell rfl) (K.cl ((hS.blk 3 rfl hg_137).cell rfl) K.cl0))))) ?_
       refine K.l (K.OW.gcall hS [2] [0, 1, 3, 4, 5, 6] [.agg #[.slice none 0 0, .slice none 0 0, .slice none 0 0], .agg #[.slice none 0 0, .slice none 0 0, .slice none 0 0]] (sameS_ok _ none none none none none none 0 0 0 0 0 0 st0 st0 _ (rdz w0 _) (rdz w0 _) (by decide) (by decide) (by decide)) ?_)
       clear hS; rintro _ _ w ⟨rfl, (⟨h_138, rfl⟩ | ⟨h_139, rfl⟩)⟩ hS
       ·
        replace hS : K.Sat w0 [g_112, g_86, g_130, g_136, g_83, g_2, fr] w := hS
        refine K.q [.bool true, .bool true] (K.z (K.t (K.r ?_)))
        refine ⟨.inr rfl, rfl, (.bool true), K.res1 rfl rfl, [], ?_, hS.pick [6]⟩
        exact rfl
       ·
        exact absurd rfl h_139
    ·
     exact absurd h2_10 h_100
   ·
    exact absurd h_9 h_98
  ·
   have hr_140 := x.mono hg_32
   replace hS : K.Sat w0 [g_31, g_2, fr] w := hS.of (by simp [K.pick, K.nth])
   refine K.q [.tuple #[.agg #[.slice q_22 T_21.q.length cq_23, .slice s_24 T_21.s.length cs_25, .slice m_26 T_21.m.length cm_27], .int .i64 0], .agg #[.slice q_22 T_21.q.length cq_23, .slice s_24 T_21.s.length cs_25, .slice m_26 T_21.m.length cm_27], .int .i64 0] ?_
   refine K.l (K.OW.gnew 30 [.slice none 0 0, .slice none 0 0, .slice none 0 0] hS ?_)
   clear hS; intro w r_141 g_142 hg_143 hS
   refine K.l (K.OW.gst 0 [.slice q_22 T_21.q.length cq_23, .slice s_24 T_21.s.length cs_25, .slice m_26 T_21.m.length cm_27] _ hS hg_143 ?_)
   clear hS; intro w g_144 hg_145 hS
   replace hS : K.Sat w0 [g_144, g_31, g_2, fr] w := hS
   refine K.q [.int .i64 0] (K.z (K.t (K.s (K.g (K.q [.int .i64 0] (K.z (K.t (K.s (K.g (K.q [.slice a L.length cap] ?_))))))))))
   refine K.l (K.OW.gcall hS [54] [0, 1, 2, 3] [.slice a L.length cap] (dorder_ok _ _ _ L (by omega) _ (fun w h => ha.no h.chg)) ?_)
   clear hS; rintro _ _ w ⟨r_146, g_147, k_148, Q_149, rfl, rfl, o_150, ho_151, hl_152⟩ hS
   replace hS : K.Sat w0 [g_147, g_144, g_31, g_2, fr] w := hS.of (by simp [K.pick, K.nth])
   refine K.q [.slice r_146 Q_149.length k_148] (K.z (K.t (K.s ?_)))
   have hQR := ho_18.uniq ho_151
   refine K.g ?_
   refine K.a (K.QR.bd [] [.slice none 0 0, .slice none 0 0, .slice none 0 0] rfl rfl (by kernel_rfl)) ?_
   refine K.l (K.OW.gnew 30 [.slice none 0 0, .slice none 0 0, .slice none 0 0] hS ?_)
   clear hS; intro w r_153 g_154 hg_155 hS
   refine K.l (K.OW.gst 0 [.slice none 0 0, .slice none 0 0, .slice none 0 0] _ hS hg_155 ?_)
   clear hS; intro w g_156 hg_157 hS
   replace hS : K.Sat w0 [g_156, g_147, g_144, g_31, g_2, fr] w := hS
   refine K.z (K.t (K.s (K.s (K.g ?_))))
   refine K.a (K.QR.ldN [.slice q S.q.length cq, .slice s S.s.length cs, .slice mm S.m.length cm] rfl rfl (by kernel_rfl) (by kernel_rfl) (K.cells (K.cl ((hS.blk 4 rfl hg_3).cell rfl) (K.cl ((hS.blk 4 rfl hg_3).cell rfl) (K.cl ((hS.blk 4 rfl hg_3).cell rfl) K.cl0))))) ?_
   refine K.l (K.OW.gcall hS [3] [0, 1, 2, 4, 5] [.agg #[.slice q S.q.length cq, .slice s S.s.length cs, .slice mm S.m.length cm]] (drightS_ok _ q s mm cq cs cm S _ hr_140 (by omega) (by omega)) ?_)
   clear hS; rintro _ _ w ⟨rfl, (⟨h_158, rfl⟩ | ⟨h_159, rfl⟩)⟩ hS
   ·
    replace hS : K.Sat w0 [g_31, g_156, g_147, g_144, g_2, fr] w := hS
    refine K.q [.bool false] (K.z (K.t (K.f (K.s (K.g (K.q [.slice a L.length cap] ?_))))))
    refine K.l (K.OW.gcall hS [56] [0, 1, 2, 3, 4, 5] [.slice a L.length cap] (dhright_ok _ _ _ L (by omega) _ (fun w h => ha.no h.chg)) ?_)
    clear hS; rintro _ _ w ⟨rfl, (⟨h_160, rfl⟩ | ⟨h_161, rfl⟩)⟩ hS
    ·
     replace hS : K.Sat w0 [g_31, g_156, g_147, g_144, g_2, fr] w := hS.of (by simp [K.pick, K.nth])
     refine K.q [.bool false] (K.z (K.t (K.f (K.s (K.g ?_)))))
     refine K.a (K.QR.ldN [.slice q S.q.length cq, .slice s S.s.length cs, .slice mm S.m.length cm] rfl rfl (by kernel_rfl) (by kernel_rfl) (K.cells (K.cl ((hS.blk 4 rfl hg_3).cell rfl) (K.cl ((hS.blk 4 rfl hg_3).cell rfl) (K.cl ((hS.blk 4 rfl hg_3).cell rfl) K.cl0))))) ?_
     refine K.q [.slice a L.length cap, .slice r_146 Q_149.length k_148] ?_
     refine K.l (K.OW.gcall hS [0, 56, 2] [1, 3, 4, 5] [.agg #[.slice q S.q.length cq, .slice s S.s.length cs, .slice mm S.m.length cm], .slice a L.length cap, .slice r_146 Q_149.length k_148] (run_ok _ _ _ _ _ L Q_149 (by omega) _ (fun w h => ha.no h.chg) q s mm cq cs cm S (by omega) (by omega) _ hr_140 _ (fun w h => K.RowE.len (K.Own.rowE 0 (h.ownr 0 rfl o_150) rfl (fun _ => rfl)) rfl) (by omega) (by omega) (by omega) (by omega) (by omega) h_158 (isOrd.val ho_151) (right_kind h_160)) ?_)
     clear hS; rintro _ _ w ⟨g_173, rfl, hg_174, (⟨h_162, rfl⟩ | ⟨T_163, q_164, cq_165, s_166, cs_167, m_168, cm_169, h_170, hgd_171, rfl, hx_172⟩)⟩ hS
     ·
      have h9 := h_162; rw [← hQR, hT_28] at h9; cases h9
     ·
      have hr_175 := hr_140.mono hg_174
      have hr_176 := hx_30.mono hg_174
      replace hS : K.Sat w0 [g_173, g_147, g_156, g_144, g_2, fr] w := hS.of (by simp [K.pick, K.nth])
      refine K.q [.tuple #[.agg #[.slice q_164 T_163.q.length cq_165, .slice s_166 T_163.s.length cs_167, .slice m_168 T_163.m.length cm_169], .bool true], .agg #[.slice q_164 T_163.q.length cq_165, .slice s_166 T_163.s.length cs_167, .slice m_168 T_163.m.length cm_169], .bool true] ?_
      refine K.l (K.OW.gnew 30 [.slice none 0 0, .slice none 0 0, .slice none 0 0] hS ?_)
      clear hS; intro w r_177 g_178 hg_179 hS
      refine K.l (K.OW.gst 0 [.slice q_164 T_163.q.length cq_165, .slice s_166 T_163.s.length cs_167, .slice m_168 T_163.m.length cm_169] _ hS hg_179 ?_)
      clear hS; intro w g_180 hg_181 hS
      replace hS : K.Sat w0 [g_180, g_173, g_147, g_156, g_144, g_2, fr] w := hS
      refine K.q [.bool true] (K.z (K.t (K.s (K.g ?_))))
      refine K.a (K.QR.ldN [.slice q_164 T_163.q.length cq_165, .slice s_166 T_163.s.length cs_167, .slice m_168 T_163.m.length cm_169] rfl rfl (by kernel_rfl) (by kernel_rfl) (K.cells (K.cl ((hS.blk 0 rfl hg_181).cell rfl) (K.cl ((hS.blk 0 rfl hg_181).cell rfl) (K.cl ((hS.blk 0 rfl hg_181).cell rfl) K.cl0))))) ?_
      refine K.l (K.OW.gst 3 [.slice q_164 T_163.q.length cq_165, .slice s_166 T_163.s.length cs_167, .slice m_168 T_163.m.length cm_169] _ hS hg_157 ?_)
      clear hS; intro w g_182 hg_183 hS
      replace hS : K.Sat w0 [g_180, g_173, g_147, g_182, g_144, g_2, fr] w := hS
      refine K.z (K.t (K.s ?_))
      have hqle := o_150.le
      refine K.g (K.q [.bool true, .bool false, .bool false, .slice a L.length cap, .slice r_146 Q_149.length k_148] ?_)
      refine K.l (K.OW.gcall hS [57, 2] [0, 1, 3, 4, 5, 6] [.slice a L.length cap, .slice r_146 Q_149.length k_148] (drsp_ok _ _ _ _ _ L Q_149 (by omega) (by omega) _ (fun w h => ha.no h.chg) _ (fun w h => K.RowE.len (K.Own.rowE 0 (h.ownr 0 rfl o_150) rfl (fun _ => rfl)) rfl) (by omega)) ?_)
      clear hS; rintro _ _ w ⟨rfl, (⟨h_184, rfl⟩ | ⟨h_185, rfl⟩)⟩ hS
      ·
       replace hS : K.Sat w0 [g_147, g_180, g_173, g_182, g_144, g_2, fr] w := hS.of (by simp [K.pick, K.nth])
       refine K.q [.bool false, .bool false] (K.z (K.t (K.f (K.k (K.t (K.s (K.g ?_)))))))
       refine K.l (K.OW.gcall hS [] [0, 1, 2, 3, 4, 5, 6] [] (awake25_ok _) ?_)
       clear hS; rintro _ _ w ⟨rfl, rfl⟩ hS
       replace hS : K.Sat w0 [g_147, g_180, g_173, g_182, g_144, g_2, fr] w := hS
       refine K.q [.bool true, .int .i64 0, .int .i64 0, .bool true, .bool true, .bool true] ?_
       refine K.a (K.QR.ldN [.slice q_22 T_21.q.length cq_23, .slice s_24 T_21.s.length cs_25, .slice m_26 T_21.m.length cm_27] rfl rfl (by kernel_rfl) (by kernel_rfl) (K.cells (K.cl ((hS.blk 4 rfl hg_145).cell rfl) (K.cl ((hS.blk 4 rfl hg_145).cell rfl) (K.cl ((hS.blk 4 rfl hg_145).cell rfl) K.cl0))))) ?_
       refine K.a (K.QR.ldN [.slice q_164 T_163.q.length cq_165, .slice s_166 T_163.s.length cs_167, .slice m_168 T_163.m.length cm_169] rfl rfl (by kernel_rfl) (by kernel_rfl) (K.cells (K.cl ((hS.blk 3 rfl hg_183).cell rfl) (K.cl ((hS.blk 3 rfl hg_183).cell rfl) (K.cl ((hS.blk 3 rfl hg_183).cell rfl) K.cl0))))) ?_
       refine K.l (K.OW.gcall hS [2] [0, 1, 3, 4, 5, 6] [.agg #[.slice q_22 T_21.q.length cq_23, .slice s_24 T_21.s.length cs_25, .slice m_26 T_21.m.length cm_27], .agg #[.slice q_164 T_163.q.length cq_165, .slice s_166 T_163.s.length cs_167, .slice m_168 T_163.m.length cm_169]] (sameS_ok _ q_22 s_24 m_26 q_164 s_166 m_168 cq_23 cs_25 cm_27 cq_165 cs_167 cm_169 T_21 T_163 _ hr_176 hx_172 hgd_29.1 hgd_29.2.1 hgd_29.2.2.1) ?_)
       clear hS; rintro _ _ w ⟨rfl, (⟨h_186, rfl⟩ | ⟨h_187, rfl⟩)⟩ hS
       ·
        replace hS : K.Sat w0 [g_173, g_147, g_180, g_182, g_144, g_2, fr] w := hS
        refine K.q [.bool true, .bool true] (K.z (K.t (K.r ?_)))
        refine ⟨.inr rfl, rfl, (.bool true), K.res1 rfl rfl, [], ?_, hS.pick [6]⟩
        exact rfl
       ·
        have h8 := h_170; rw [← hQR, hT_28] at h8; exact absurd (Option.some.inj h8) h_187
      ·
       rw [← hQR] at h_185; exact absurd hn_20 h_185
    ·
     exact absurd h2_16 h_161
   ·
    exact absurd h_15 h_159
 ·
  replace hS : K.Sat w0 [g_2, g, fr] w := hS
  refine K.q [.bool true] (K.z (K.t (K.h (K.s (K.g ?_)))))
  refine K.l (K.OW.gcall hS [] [0, 1, 2] [] (awake25_ok _) ?_)
  clear hS; rintro _ _ w ⟨rfl, rfl⟩ hS
  replace hS : K.Sat w0 [g_2, g, fr] w := hS
  refine K.q [.bool true] (K.z (K.t (K.r (K.u ?_))))
  refine ⟨.inr rfl, rfl, (.bool true), K.res1 rfl rfl, [], ?_, hS.pick [2]⟩
  exact rfl
end Go.Proofs.Ytnehocjmgnhhhaa
