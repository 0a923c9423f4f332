import Derived.Test.YtnehocjmgnhhhaaFaw
import Derived.Test.YtnehocjmgnhhhaaKn
/- Witness: the example. -/
namespace Go.Proofs.Ytnehocjmgnhhhaa
open Go.RowKit
set_option linter.unusedVariables false
attribute [local irreducible] K.KW K.RW K.DW K.OW K.QR K.KC
set_option maxHeartbeats 8000000 in
set_option maxRecDepth 100000 in
theorem awake25_ok (w0 : World)  :
  K.GC Try.prog w0 7 #[] [] (fun v post => v = .bool true ∧ post = []) := by
 refine K.GC.mk (n := 71) Try.func7 rfl rfl [] rfl rfl ?_
 intro fr w hS
 replace hS : K.Sat w0 [fr] w := hS
 refine K.s (K.g (K.q [.bool false] (K.z (K.t (K.s (K.g ?_))))))
 refine K.a (K.QR.bd [(0, .int .i64 3), (1, .int .u32 4)] [.int .i64 3, .int .u32 4, .int .u32 0] rfl rfl (by kernel_rfl)) ?_
 refine K.a (K.QR.bd [(0, .int .i64 1)] [.int .i64 1, .int .u32 0] rfl rfl (by kernel_rfl)) ?_
 refine K.a (K.QR.bd [(1, .agg #[.int .i64 3, .int .u32 4, .int .u32 0]), (2, .agg #[.int .i64 1, .int .u32 0]), (3, .int .i64 0), (5, .int .i64 3), (4, .int .i64 5)] [.int .i64 0, .int .i64 3, .int .u32 4, .int .u32 0, .int .i64 1, .int .u32 0, .int .i64 0, .int .i64 5, .int .i64 3, .bool false, .bool false] rfl rfl (by kernel_rfl)) ?_
 refine K.l (K.OW.gnew 51 [.int .i64 0, .int .i64 0, .int .u32 0, .int .u32 0, .int .i64 0, .int .u32 0, .int .i64 0, .int .i64 0, .int .i64 0, .bool false, .bool false] hS ?_)
 clear hS; intro w r_1 g_2 hg_3 hS
 refine K.l (K.OW.gst 0 [.int .i64 0, .int .i64 3, .int .u32 4, .int .u32 0, .int .i64 1, .int .u32 0, .int .i64 0, .int .i64 5, .int .i64 3, .bool false, .bool false] _ hS hg_3 ?_)
 clear hS; intro w g_4 hg_5 hS
 replace hS : K.Sat w0 [g_4, fr] w := hS
 refine K.z (K.t (K.s (K.g ?_)))
 refine K.a (K.QR.bd [(0, .int .i64 5), (1, .int .u32 4)] [.int .i64 5, .int .u32 4, .int .u32 0] rfl rfl (by kernel_rfl)) ?_
 refine K.a (K.QR.bd [(0, .int .i64 4)] [.int .i64 4, .int .u32 0] rfl rfl (by kernel_rfl)) ?_
 refine K.a (K.QR.bd [(0, .int .i64 1), (1, .agg #[.int .i64 5, .int .u32 4, .int .u32 0]), (2, .agg #[.int .i64 4, .int .u32 0]), (3, .int .i64 1), (5, .int .i64 2), (4, .int .i64 6)] [.int .i64 1, .int .i64 5, .int .u32 4, .int .u32 0, .int .i64 4, .int .u32 0, .int .i64 1, .int .i64 6, .int .i64 2, .bool false, .bool false] rfl rfl (by kernel_rfl)) ?_
 refine K.l (K.OW.gnew 51 [.int .i64 0, .int .i64 0, .int .u32 0, .int .u32 0, .int .i64 0, .int .u32 0, .int .i64 0, .int .i64 0, .int .i64 0, .bool false, .bool false] hS ?_)
 clear hS; intro w r_6 g_7 hg_8 hS
 refine K.l (K.OW.gst 0 [.int .i64 1, .int .i64 5, .int .u32 4, .int .u32 0, .int .i64 4, .int .u32 0, .int .i64 1, .int .i64 6, .int .i64 2, .bool false, .bool false] _ hS hg_8 ?_)
 clear hS; intro w g_9 hg_10 hS
 replace hS : K.Sat w0 [g_9, g_4, fr] w := hS
 refine K.z (K.t (K.s (K.g ?_)))
 refine K.a (K.QR.bd [] [.slice none 0 0, .slice none 0 0, .slice none 0 0] rfl rfl (by kernel_rfl)) ?_
 refine K.a (K.QR.ldN [.int .i64 0, .int .i64 3, .int .u32 4, .int .u32 0, .int .i64 1, .int .u32 0, .int .i64 0, .int .i64 5, .int .i64 3, .bool false, .bool false] rfl rfl (by kernel_rfl) (by kernel_rfl) (K.cells (K.cl ((hS.blk 1 rfl hg_5).cell rfl) (K.cl ((hS.blk 1 rfl hg_5).cell rfl) (K.cl ((hS.blk 1 rfl hg_5).cell rfl) (K.cl ((hS.blk 1 rfl hg_5).cell rfl) (K.cl ((hS.blk 1 rfl hg_5).cell rfl) (K.cl ((hS.blk 1 rfl hg_5).cell rfl) (K.cl ((hS.blk 1 rfl hg_5).cell rfl) (K.cl ((hS.blk 1 rfl hg_5).cell rfl) (K.cl ((hS.blk 1 rfl hg_5).cell rfl) (K.cl ((hS.blk 1 rfl hg_5).cell rfl) (K.cl ((hS.blk 1 rfl hg_5).cell rfl) K.cl0))))))))))))) ?_
 refine K.a (K.QR.ldN [.int .i64 1, .int .i64 5, .int .u32 4, .int .u32 0, .int .i64 4, .int .u32 0, .int .i64 1, .int .i64 6, .int .i64 2, .bool false, .bool false] rfl rfl (by kernel_rfl) (by kernel_rfl) (K.cells (K.cl ((hS.blk 0 rfl hg_10).cell rfl) (K.cl ((hS.blk 0 rfl hg_10).cell rfl) (K.cl ((hS.blk 0 rfl hg_10).cell rfl) (K.cl ((hS.blk 0 rfl hg_10).cell rfl) (K.cl ((hS.blk 0 rfl hg_10).cell rfl) (K.cl ((hS.blk 0 rfl hg_10).cell rfl) (K.cl ((hS.blk 0 rfl hg_10).cell rfl) (K.cl ((hS.blk 0 rfl hg_10).cell rfl) (K.cl ((hS.blk 0 rfl hg_10).cell rfl) (K.cl ((hS.blk 0 rfl hg_10).cell rfl) (K.cl ((hS.blk 0 rfl hg_10).cell rfl) K.cl0))))))))))))) ?_
 refine K.l (K.OW.gbs [(0, .agg #[.int .i64 0, .int .i64 3, .int .u32 4, .int .u32 0, .int .i64 1, .int .u32 0, .int .i64 0, .int .i64 5, .int .i64 3, .bool false, .bool false]), (1, .agg #[.int .i64 1, .int .i64 5, .int .u32 4, .int .u32 0, .int .i64 4, .int .u32 0, .int .i64 1, .int .i64 6, .int .i64 2, .bool false, .bool false])] [.int .i64 0, .int .i64 3, .int .u32 4, .int .u32 0, .int .i64 1, .int .u32 0, .int .i64 0, .int .i64 5, .int .i64 3, .bool false, .bool false, .int .i64 1, .int .i64 5, .int .u32 4, .int .u32 0, .int .i64 4, .int .u32 0, .int .i64 1, .int .i64 6, .int .i64 2, .bool false, .bool false] hS (fun w => K.bs_run (P := Try.prog) w 22 51 2 _ _ Try.underlying22 (by kernel_rfl)) ?_)
 clear hS; intro w r_11 g_12 hg_13 hS
 refine K.l (K.OW.gcall hS [54, 0] [1, 2, 3] [.agg #[.slice none 0 0, .slice none 0 0, .slice none 0 0], .slice (some ⟨r_11, 0, none⟩) 2 2] (lin_aw _ _ _ [(⟨0, 3, 4, 0, 1, 0, 0, 5, 3, false, false⟩ : CallM), (⟨1, 5, 4, 0, 4, 0, 1, 6, 2, false, false⟩ : CallM)] (by decide) _ (fun w h => K.Blk.rowE (c := cCall) call0 (L := [(⟨0, 3, 4, 0, 1, 0, 0, 5, 3, false, false⟩ : CallM), (⟨1, 5, 4, 0, 4, 0, 1, 6, 2, false, false⟩ : CallM)]) (h.blk 0 rfl hg_13) (fun _ => rfl) rfl) aw_right1 (by decide) (by kernel_rfl)) ?_)
 clear hS; rintro _ _ w ⟨g_14, rfl, rfl⟩ hS
 replace hS : K.Sat w0 [g_14, g_12, g_9, g_4, fr] w := hS.of (by simp [K.pick, K.nth])
 refine K.q [.tuple #[.bool true, .int .i64 0], .bool true, .int .i64 0, .bool true, .int .i64 0] (K.z (K.t (K.s (K.g ?_))))
 refine K.a (K.QR.bd [] [.slice none 0 0, .slice none 0 0, .slice none 0 0] rfl rfl (by kernel_rfl)) ?_
 refine K.a (K.QR.ldN [.int .i64 0, .int .i64 3, .int .u32 4, .int .u32 0, .int .i64 1, .int .u32 0, .int .i64 0, .int .i64 5, .int .i64 3, .bool false, .bool false] rfl rfl (by kernel_rfl) (by kernel_rfl) (K.cells (K.cl ((hS.blk 3 rfl hg_5).cell rfl) (K.cl ((hS.blk 3 rfl hg_5).cell rfl) (K.cl ((hS.blk 3 rfl hg_5).cell rfl) (K.cl ((hS.blk 3 rfl hg_5).cell rfl) (K.cl ((hS.blk 3 rfl hg_5).cell rfl) (K.cl ((hS.blk 3 rfl hg_5).cell rfl) (K.cl ((hS.blk 3 rfl hg_5).cell rfl) (K.cl ((hS.blk 3 rfl hg_5).cell rfl) (K.cl ((hS.blk 3 rfl hg_5).cell rfl) (K.cl ((hS.blk 3 rfl hg_5).cell rfl) (K.cl ((hS.blk 3 rfl hg_5).cell rfl) K.cl0))))))))))))) ?_
 refine K.a (K.QR.ldN [.int .i64 1, .int .i64 5, .int .u32 4, .int .u32 0, .int .i64 4, .int .u32 0, .int .i64 1, .int .i64 6, .int .i64 2, .bool false, .bool false] rfl rfl (by kernel_rfl) (by kernel_rfl) (K.cells (K.cl ((hS.blk 2 rfl hg_10).cell rfl) (K.cl ((hS.blk 2 rfl hg_10).cell rfl) (K.cl ((hS.blk 2 rfl hg_10).cell rfl) (K.cl ((hS.blk 2 rfl hg_10).cell rfl) (K.cl ((hS.blk 2 rfl hg_10).cell rfl) (K.cl ((hS.blk 2 rfl hg_10).cell rfl) (K.cl ((hS.blk 2 rfl hg_10).cell rfl) (K.cl ((hS.blk 2 rfl hg_10).cell rfl) (K.cl ((hS.blk 2 rfl hg_10).cell rfl) (K.cl ((hS.blk 2 rfl hg_10).cell rfl) (K.cl ((hS.blk 2 rfl hg_10).cell rfl) K.cl0))))))))))))) ?_
 refine K.l (K.OW.gbs [(0, .agg #[.int .i64 0, .int .i64 3, .int .u32 4, .int .u32 0, .int .i64 1, .int .u32 0, .int .i64 0, .int .i64 5, .int .i64 3, .bool false, .bool false]), (1, .agg #[.int .i64 1, .int .i64 5, .int .u32 4, .int .u32 0, .int .i64 4, .int .u32 0, .int .i64 1, .int .i64 6, .int .i64 2, .bool false, .bool false])] [.int .i64 0, .int .i64 3, .int .u32 4, .int .u32 0, .int .i64 1, .int .u32 0, .int .i64 0, .int .i64 5, .int .i64 3, .bool false, .bool false, .int .i64 1, .int .i64 5, .int .u32 4, .int .u32 0, .int .i64 4, .int .u32 0, .int .i64 1, .int .i64 6, .int .i64 2, .bool false, .bool false] hS (fun w => K.bs_run (P := Try.prog) w 22 51 2 _ _ Try.underlying22 (by kernel_rfl)) ?_)
 clear hS; intro w r_15 g_16 hg_17 hS
 refine K.l (K.OW.gcall hS [56, 0] [1, 2, 3, 4, 5] [.agg #[.slice none 0 0, .slice none 0 0, .slice none 0 0], .slice (some ⟨r_15, 0, none⟩) 2 2] (chk_aw1 _ _ _ [(⟨0, 3, 4, 0, 1, 0, 0, 5, 3, false, false⟩ : CallM), (⟨1, 5, 4, 0, 4, 0, 1, 6, 2, false, false⟩ : CallM)] (by decide) _ (fun w h => K.Blk.rowE (c := cCall) call0 (L := [(⟨0, 3, 4, 0, 1, 0, 0, 5, 3, false, false⟩ : CallM), (⟨1, 5, 4, 0, 4, 0, 1, 6, 2, false, false⟩ : CallM)]) (h.blk 0 rfl hg_17) (fun _ => rfl) rfl) aw_right1 (by decide) _ aw_ord1 aw_rsp (by kernel_rfl)) ?_)
 clear hS; rintro _ _ w ⟨g_18, q_19, s_20, m_21, n1_22, n2_23, n3_24, cq_25, cs_26, cm_27, rfl, rfl⟩ hS
 replace hS : K.Sat w0 [g_18, g_16, g_14, g_12, g_9, g_4, fr] w := hS.of (by simp [K.pick, K.nth])
 refine K.q [.tuple #[.agg #[.slice q_19 n1_22 cq_25, .slice s_20 n2_23 cs_26, .slice m_21 n3_24 cm_27], .int .i64 0], .agg #[.slice q_19 n1_22 cq_25, .slice s_20 n2_23 cs_26, .slice m_21 n3_24 cm_27], .int .i64 0] ?_
 refine K.l (K.OW.gnew 30 [.slice none 0 0, .slice none 0 0, .slice none 0 0] hS ?_)
 clear hS; intro w r_28 g_29 hg_30 hS
 refine K.l (K.OW.gst 0 [.slice q_19 n1_22 cq_25, .slice s_20 n2_23 cs_26, .slice m_21 n3_24 cm_27] _ hS hg_30 ?_)
 clear hS; intro w g_31 hg_32 hS
 replace hS : K.Sat w0 [g_31, g_18, g_16, g_14, g_12, g_9, g_4, fr] w := hS
 refine K.q [.int .i64 0] (K.z (K.t (K.s (K.g (K.q [.pointer (some ⟨r_6, 4, none⟩), .pointer (some ⟨r_6, 4, none⟩)] ?_)))))
 refine K.l (K.OW.gst 5 [.int .i64 3] _ hS hg_10 ?_)
 clear hS; intro w g_33 hg_34 hS
 replace hS : K.Sat w0 [g_31, g_18, g_16, g_14, g_12, g_33, g_4, fr] w := hS
 refine K.z (K.t (K.s (K.g ?_)))
 refine K.a (K.QR.bd [] [.slice none 0 0, .slice none 0 0, .slice none 0 0] rfl rfl (by kernel_rfl)) ?_
 refine K.a (K.QR.ldN [.int .i64 0, .int .i64 3, .int .u32 4, .int .u32 0, .int .i64 1, .int .u32 0, .int .i64 0, .int .i64 5, .int .i64 3, .bool false, .bool false] rfl rfl (by kernel_rfl) (by kernel_rfl) (K.cells (K.cl ((hS.blk 6 rfl hg_5).cell rfl) (K.cl ((hS.blk 6 rfl hg_5).cell rfl) (K.cl ((hS.blk 6 rfl hg_5).cell rfl) (K.cl ((hS.blk 6 rfl hg_5).cell rfl) (K.cl ((hS.blk 6 rfl hg_5).cell rfl) (K.cl ((hS.blk 6 rfl hg_5).cell rfl) (K.cl ((hS.blk 6 rfl hg_5).cell rfl) (K.cl ((hS.blk 6 rfl hg_5).cell rfl) (K.cl ((hS.blk 6 rfl hg_5).cell rfl) (K.cl ((hS.blk 6 rfl hg_5).cell rfl) (K.cl ((hS.blk 6 rfl hg_5).cell rfl) K.cl0))))))))))))) ?_
 refine K.a (K.QR.ldN [.int .i64 1, .int .i64 5, .int .u32 4, .int .u32 0, .int .i64 3, .int .u32 0, .int .i64 1, .int .i64 6, .int .i64 2, .bool false, .bool false] rfl rfl (by kernel_rfl) (by kernel_rfl) (K.cells (K.cl ((hS.blk 5 rfl hg_34).cell rfl) (K.cl ((hS.blk 5 rfl hg_34).cell rfl) (K.cl ((hS.blk 5 rfl hg_34).cell rfl) (K.cl ((hS.blk 5 rfl hg_34).cell rfl) (K.cl ((hS.blk 5 rfl hg_34).cell rfl) (K.cl ((hS.blk 5 rfl hg_34).cell rfl) (K.cl ((hS.blk 5 rfl hg_34).cell rfl) (K.cl ((hS.blk 5 rfl hg_34).cell rfl) (K.cl ((hS.blk 5 rfl hg_34).cell rfl) (K.cl ((hS.blk 5 rfl hg_34).cell rfl) (K.cl ((hS.blk 5 rfl hg_34).cell rfl) K.cl0))))))))))))) ?_
 refine K.l (K.OW.gbs [(0, .agg #[.int .i64 0, .int .i64 3, .int .u32 4, .int .u32 0, .int .i64 1, .int .u32 0, .int .i64 0, .int .i64 5, .int .i64 3, .bool false, .bool false]), (1, .agg #[.int .i64 1, .int .i64 5, .int .u32 4, .int .u32 0, .int .i64 3, .int .u32 0, .int .i64 1, .int .i64 6, .int .i64 2, .bool false, .bool false])] [.int .i64 0, .int .i64 3, .int .u32 4, .int .u32 0, .int .i64 1, .int .u32 0, .int .i64 0, .int .i64 5, .int .i64 3, .bool false, .bool false, .int .i64 1, .int .i64 5, .int .u32 4, .int .u32 0, .int .i64 3, .int .u32 0, .int .i64 1, .int .i64 6, .int .i64 2, .bool false, .bool false] hS (fun w => K.bs_run (P := Try.prog) w 22 51 2 _ _ Try.underlying22 (by kernel_rfl)) ?_)
 clear hS; intro w r_35 g_36 hg_37 hS
 refine K.l (K.OW.gcall hS [59, 0] [1, 2, 3, 4, 5, 6, 7, 8] [.agg #[.slice none 0 0, .slice none 0 0, .slice none 0 0], .slice (some ⟨r_35, 0, none⟩) 2 2] (lin_aw _ _ _ [(⟨0, 3, 4, 0, 1, 0, 0, 5, 3, false, false⟩ : CallM), (⟨1, 5, 4, 0, 3, 0, 1, 6, 2, false, false⟩ : CallM)] (by decide) _ (fun w h => K.Blk.rowE (c := cCall) call0 (L := [(⟨0, 3, 4, 0, 1, 0, 0, 5, 3, false, false⟩ : CallM), (⟨1, 5, 4, 0, 3, 0, 1, 6, 2, false, false⟩ : CallM)]) (h.blk 0 rfl hg_37) (fun _ => rfl) rfl) aw_right2 (by decide) (by kernel_rfl)) ?_)
 clear hS; rintro _ _ w ⟨g_38, rfl, rfl⟩ hS
 replace hS : K.Sat w0 [g_38, g_36, g_31, g_18, g_16, g_14, g_12, g_33, g_4, fr] w := hS.of (by simp [K.pick, K.nth])
 refine K.q [.tuple #[.bool true, .int .i64 0], .bool true, .int .i64 0, .bool true, .int .i64 0] (K.z (K.t (K.s (K.g ?_))))
 refine K.a (K.QR.bd [] [.slice none 0 0, .slice none 0 0, .slice none 0 0] rfl rfl (by kernel_rfl)) ?_
 refine K.a (K.QR.ldN [.int .i64 0, .int .i64 3, .int .u32 4, .int .u32 0, .int .i64 1, .int .u32 0, .int .i64 0, .int .i64 5, .int .i64 3, .bool false, .bool false] rfl rfl (by kernel_rfl) (by kernel_rfl) (K.cells (K.cl ((hS.blk 8 rfl hg_5).cell rfl) (K.cl ((hS.blk 8 rfl hg_5).cell rfl) (K.cl ((hS.blk 8 rfl hg_5).cell rfl) (K.cl ((hS.blk 8 rfl hg_5).cell rfl) (K.cl ((hS.blk 8 rfl hg_5).cell rfl) (K.cl ((hS.blk 8 rfl hg_5).cell rfl) (K.cl ((hS.blk 8 rfl hg_5).cell rfl) (K.cl ((hS.blk 8 rfl hg_5).cell rfl) (K.cl ((hS.blk 8 rfl hg_5).cell rfl) (K.cl ((hS.blk 8 rfl hg_5).cell rfl) (K.cl ((hS.blk 8 rfl hg_5).cell rfl) K.cl0))))))))))))) ?_
 refine K.a (K.QR.ldN [.int .i64 1, .int .i64 5, .int .u32 4, .int .u32 0, .int .i64 3, .int .u32 0, .int .i64 1, .int .i64 6, .int .i64 2, .bool false, .bool false] rfl rfl (by kernel_rfl) (by kernel_rfl) (K.cells (K.cl ((hS.blk 7 rfl hg_34).cell rfl) (K.cl ((hS.blk 7 rfl hg_34).cell rfl) (K.cl ((hS.blk 7 rfl hg_34).cell rfl) (K.cl ((hS.blk 7 rfl hg_34).cell rfl) (K.cl ((hS.blk 7 rfl hg_34).cell rfl) (K.cl ((hS.blk 7 rfl hg_34).cell rfl) (K.cl ((hS.blk 7 rfl hg_34).cell rfl) (K.cl ((hS.blk 7 rfl hg_34).cell rfl) (K.cl ((hS.blk 7 rfl hg_34).cell rfl) (K.cl ((hS.blk 7 rfl hg_34).cell rfl) (K.cl ((hS.blk 7 rfl hg_34).cell rfl) K.cl0))))))))))))) ?_
 refine K.l (K.OW.gbs [(0, .agg #[.int .i64 0, .int .i64 3, .int .u32 4, .int .u32 0, .int .i64 1, .int .u32 0, .int .i64 0, .int .i64 5, .int .i64 3, .bool false, .bool false]), (1, .agg #[.int .i64 1, .int .i64 5, .int .u32 4, .int .u32 0, .int .i64 3, .int .u32 0, .int .i64 1, .int .i64 6, .int .i64 2, .bool false, .bool false])] [.int .i64 0, .int .i64 3, .int .u32 4, .int .u32 0, .int .i64 1, .int .u32 0, .int .i64 0, .int .i64 5, .int .i64 3, .bool false, .bool false, .int .i64 1, .int .i64 5, .int .u32 4, .int .u32 0, .int .i64 3, .int .u32 0, .int .i64 1, .int .i64 6, .int .i64 2, .bool false, .bool false] hS (fun w => K.bs_run (P := Try.prog) w 22 51 2 _ _ Try.underlying22 (by kernel_rfl)) ?_)
 clear hS; intro w r_39 g_40 hg_41 hS
 refine K.l (K.OW.gcall hS [61, 0] [1, 2, 3, 4, 5, 6, 7, 8, 9, 10] [.agg #[.slice none 0 0, .slice none 0 0, .slice none 0 0], .slice (some ⟨r_39, 0, none⟩) 2 2] (chk_aw2 _ _ _ [(⟨0, 3, 4, 0, 1, 0, 0, 5, 3, false, false⟩ : CallM), (⟨1, 5, 4, 0, 3, 0, 1, 6, 2, false, false⟩ : CallM)] (by decide) _ (fun w h => K.Blk.rowE (c := cCall) call0 (L := [(⟨0, 3, 4, 0, 1, 0, 0, 5, 3, false, false⟩ : CallM), (⟨1, 5, 4, 0, 3, 0, 1, 6, 2, false, false⟩ : CallM)]) (h.blk 0 rfl hg_41) (fun _ => rfl) rfl) aw_right2 (by decide) _ aw_ord2 (by kernel_rfl)) ?_)
 clear hS; rintro _ _ w ⟨g_42, rfl, rfl⟩ hS
 replace hS : K.Sat w0 [g_42, g_40, g_38, g_36, g_31, g_18, g_16, g_14, g_12, g_33, g_4, fr] w := hS.of (by simp [K.pick, K.nth])
 refine K.q [.tuple #[.agg #[.slice none 0 0, .slice none 0 0, .slice none 0 0], .int .i64 9], .agg #[.slice none 0 0, .slice none 0 0, .slice none 0 0], .int .i64 9] ?_
 refine K.l (K.OW.gnew 30 [.slice none 0 0, .slice none 0 0, .slice none 0 0] hS ?_)
 clear hS; intro w r_43 g_44 hg_45 hS
 refine K.l (K.OW.gst 0 [.slice none 0 0, .slice none 0 0, .slice none 0 0] _ hS hg_45 ?_)
 clear hS; intro w g_46 hg_47 hS
 replace hS : K.Sat w0 [g_46, g_42, g_40, g_38, g_36, g_31, g_18, g_16, g_14, g_12, g_33, g_4, fr] w := hS
 refine K.q [.int .i64 9] (K.z (K.t (K.s (K.g (K.q [.bool true, .bool true, .bool true, .bool true, .bool true, .int .i64 0, .bool true, .bool true, .bool true, .int .i64 0, .bool true, .bool true, .bool true, .int .i64 0, .bool true, .bool true, .bool true, .int .i64 9, .bool true, .bool true, .bool true] (K.z (K.t (K.r ?_))))))))
 refine ⟨.inr rfl, rfl, (.bool true), K.res1 rfl rfl, [], ?_, hS.pick [12]⟩
 exact ⟨rfl, rfl⟩
end Go.Proofs.Ytnehocjmgnhhhaa
