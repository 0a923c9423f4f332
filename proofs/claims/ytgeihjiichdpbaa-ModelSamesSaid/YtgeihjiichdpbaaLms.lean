/- The statement ModelSames. -/
import Derived.Test.YtgeihjiichdpbaaFms
namespace Go.Proofs.Ytgeihjiichdpbaa
open Go.RowKit
set_option linter.unusedVariables false
attribute [local irreducible] K.KW K.RW K.DW K.OW K.QR K.KC

set_option maxHeartbeats 1000000 in
set_option maxRecDepth 100000 in
theorem lawms_ok (q s m q' s' m' : Option Addr) (cq cs cm cq' cs' cm' : Nat) (qa sa qb sb : List Int) (ma mb : List PairM) (w0 : World) (x1 : RU32 w0 q qa) (x2 : RU32 w0 s sa) (x3 : RPr w0 m ma) (y1 : RU32 w0 q' qb) (y2 : RU32 w0 s' sb) (y3 : RPr w0 m' mb) :
    K.KC Try.prog 6 #[.agg #[.slice q qa.length cq, .slice s sa.length cs, .slice m ma.length cm], .agg #[.slice q' qb.length cq', .slice s' sb.length cs', .slice m' mb.length cm']] w0 (fun v w' => v = .bool true ∧ K.Chg K.No w0 w') := by
  refine K.KC.mk (n := 29) Try.func6 rfl rfl [.agg #[.slice q qa.length cq, .slice s sa.length cs, .slice m ma.length cm], .agg #[.slice q' qb.length cq', .slice s' sb.length cs', .slice m' mb.length cm']] rfl rfl ?_
  refine K.KW.seq ?_
  -- region 0 law.go:82
  refine K.KW.region ?_
  refine K.RW.l rfl (K.OW.new (t := 42) rfl (fun r => .pointer (some ⟨r, 0, none⟩)) [.slice q qa.length cq, .slice s sa.length cs, .slice m ma.length cm] (by kernel_rfl) ?_) 
  intro w_1 r_2 hr_3 e_4 hs_5 b_6
  have c_7 := e_4
  have z_8 := c_7.size
  have zz_9 := e_4.size
  refine K.RW.l rfl (K.OW.new (t := 42) rfl (fun r => .pointer (some ⟨r, 0, none⟩)) [.slice q' qb.length cq', .slice s' sb.length cs', .slice m' mb.length cm'] (by kernel_rfl) ?_) 
  intro w_10 r_11 hr_12 e_13 hs_14 b_15
  have c_16 := c_7.no e_13
  have z_17 := c_16.size
  have zz_18 := e_13.size
  have f_19 := b_6.no e_13
  refine K.RW.q rfl rfl (K.QR.k (v := .bool false) (by kernel_rfl)) ?_
  refine K.RW.nil ?_
  refine K.thn_normal ?_
  refine K.KW.seq ?_
  refine K.KW.seq ?_
  -- region 1 law.go:83
  refine K.KW.region ?_
  refine K.RW.q rfl rfl (K.QR.ldN [.slice q qa.length cq, .slice s sa.length cs, .slice m ma.length cm] rfl rfl (by kernel_rfl) (by kernel_rfl) (K.cells (K.cl (f_19.cell rfl) (K.cl (f_19.cell rfl) (K.cl (f_19.cell rfl) K.cl0))))) ?_
  refine K.RW.l rfl (K.OW.call rfl [.agg #[.slice q qa.length cq, .slice s sa.length cs, .slice m ma.length cm]] rfl rfl (by kernel_rfl) (few8_ok _ _ _ _ _ _ _ _ _ _) ?_) 
  rintro v_23 w_21 ⟨hv_22, c_20⟩
  have c_24 := c_16.no c_20
  have z_25 := c_24.size
  have zz_26 := c_20.size
  have f_27 := f_19.no c_20
  have f_28 := b_15.no c_20
  rcases Bool.eq_false_or_eq_true (decide (qa.length ≤ 100 ∧ sa.length ≤ 100 ∧ ma.length ≤ 100)) with hb_29 | hb_29
  ·  -- True
    rw [hb_29] at hv_22; subst hv_22
    have hp_30 := of_decide_eq_true hb_29
    refine K.RW.q rfl rfl (K.QR.k (v := .bool false) (by kernel_rfl)) ?_
    refine K.RW.q rfl rfl (K.QR.k (v := .bool false) (by kernel_rfl)) ?_
    refine K.RW.q rfl (by kernel_rfl) (K.QR.ldN [.slice q' qb.length cq', .slice s' sb.length cs', .slice m' mb.length cm'] rfl rfl (by kernel_rfl) (by kernel_rfl) (K.cells (K.cl (f_28.cell rfl) (K.cl (f_28.cell rfl) (K.cl (f_28.cell rfl) K.cl0))))) ?_
    refine K.RW.l (by kernel_rfl) (K.OW.call rfl [.agg #[.slice q' qb.length cq', .slice s' sb.length cs', .slice m' mb.length cm']] rfl rfl (by kernel_rfl) (few8_ok _ _ _ _ _ _ _ _ _ _) ?_) 
    rintro v_34 w_32 ⟨hv_33, c_31⟩
    have c_35 := c_24.no c_31
    have z_36 := c_35.size
    have zz_37 := c_31.size
    have f_38 := f_27.no c_31
    have f_39 := f_28.no c_31
    rcases Bool.eq_false_or_eq_true (decide (qb.length ≤ 100 ∧ sb.length ≤ 100 ∧ mb.length ≤ 100)) with hb_40 | hb_40
    ·  -- True
      rw [hb_40] at hv_33; subst hv_33
      have hp_41 := of_decide_eq_true hb_40
      refine K.RW.q rfl (by kernel_rfl) (K.QR.k (v := .bool false) (by kernel_rfl)) ?_
      refine K.RW.q rfl rfl (K.QR.k (v := .bool false) (by kernel_rfl)) ?_
      refine K.RW.nil ?_
      refine K.thn_normal ?_
      refine K.KW.ifF rfl ?_
      refine K.KW.skip ?_
      refine K.thn_normal ?_
      refine K.KW.seq ?_
      -- region 3 law.go:86
      refine K.KW.drawn (fun w => K.Chg K.No w0 w ∧ (w.cell? ⟨r_11, 0, none⟩ = some (.slice q' qb.length cq')) ∧ (w.cell? ⟨r_11, 1, none⟩ = some (.slice s' sb.length cs')) ∧ (w.cell? ⟨r_11, 2, none⟩ = some (.slice m' mb.length cm')) ∧ (w.cell? ⟨r_2, 0, none⟩ = some (.slice q qa.length cq)) ∧ (w.cell? ⟨r_2, 1, none⟩ = some (.slice s sa.length cs)) ∧ (w.cell? ⟨r_2, 2, none⟩ = some (.slice m ma.length cm))) (by kernel_rfl) ?_
      intro w_42 e_43 hs_44
      have c_46 := c_35.no e_43
      have z_47 := c_46.size
      have zz_48 := e_43.size
      have f_49 := f_38.no e_43
      have f_50 := f_39.no e_43
      have hS_45 : (fun w => K.Chg K.No w0 w ∧ (w.cell? ⟨r_11, 0, none⟩ = some (.slice q' qb.length cq')) ∧ (w.cell? ⟨r_11, 1, none⟩ = some (.slice s' sb.length cs')) ∧ (w.cell? ⟨r_11, 2, none⟩ = some (.slice m' mb.length cm')) ∧ (w.cell? ⟨r_2, 0, none⟩ = some (.slice q qa.length cq)) ∧ (w.cell? ⟨r_2, 1, none⟩ = some (.slice s sa.length cs)) ∧ (w.cell? ⟨r_2, 2, none⟩ = some (.slice m ma.length cm))) w_42 := ⟨c_46, ((f_50).cell rfl), ((f_50).cell rfl), ((f_50).cell rfl), ((f_49).cell rfl), ((f_49).cell rfl), ((f_49).cell rfl)⟩
      refine K.DW.l 0 rfl (by kernel_rfl) rfl (K.OW.call rfl [] rfl rfl (by kernel_rfl) (awake08_ok _) ?_)
      rintro _ w_52 ⟨rfl, c_51⟩
      have c_53 := c_46.no c_51
      have z_54 := c_53.size
      have zz_55 := c_51.size
      have f_56 := f_49.no c_51
      have f_57 := f_50.no c_51
      have hS_58 : (fun w => K.Chg K.No w0 w ∧ (w.cell? ⟨r_11, 0, none⟩ = some (.slice q' qb.length cq')) ∧ (w.cell? ⟨r_11, 1, none⟩ = some (.slice s' sb.length cs')) ∧ (w.cell? ⟨r_11, 2, none⟩ = some (.slice m' mb.length cm')) ∧ (w.cell? ⟨r_2, 0, none⟩ = some (.slice q qa.length cq)) ∧ (w.cell? ⟨r_2, 1, none⟩ = some (.slice s sa.length cs)) ∧ (w.cell? ⟨r_2, 2, none⟩ = some (.slice m ma.length cm))) w_52 := ⟨c_53, ((f_57).cell rfl), ((f_57).cell rfl), ((f_57).cell rfl), ((f_56).cell rfl), ((f_56).cell rfl), ((f_56).cell rfl)⟩
      refine ⟨.inl hS_58, ?_⟩
      refine K.DW.l 1 rfl (by kernel_rfl) rfl (K.OW.q rfl (K.QR.k (v := .bool true) (by kernel_rfl)) ?_)
      refine ⟨.inl hS_58, ?_⟩
      refine K.DW.q 2 (by kernel_rfl) rfl rfl (by kernel_rfl) (by kernel_rfl) (fun w hS => K.QR.ldN [.slice q qa.length cq, .slice s sa.length cs, .slice m ma.length cm] rfl rfl (by kernel_rfl) (by kernel_rfl) (K.cells (K.cl (hS.2.2.2.2.1) (K.cl (hS.2.2.2.2.2.1) (K.cl (hS.2.2.2.2.2.2) K.cl0))))) hS_58 ?_
      refine K.DW.q 3 (by kernel_rfl) rfl rfl (by kernel_rfl) (by kernel_rfl) (fun w hS => K.QR.ldN [.slice q' qb.length cq', .slice s' sb.length cs', .slice m' mb.length cm'] rfl rfl (by kernel_rfl) (by kernel_rfl) (K.cells (K.cl (hS.2.1) (K.cl (hS.2.2.1) (K.cl (hS.2.2.2.1) K.cl0))))) hS_58 ?_
      refine K.DW.q 5 (by kernel_rfl) rfl rfl (by kernel_rfl) (by kernel_rfl) (fun w hS => K.QR.ldN [.slice q qa.length cq, .slice s sa.length cs, .slice m ma.length cm] rfl rfl (by kernel_rfl) (by kernel_rfl) (K.cells (K.cl (hS.2.2.2.2.1) (K.cl (hS.2.2.2.2.2.1) (K.cl (hS.2.2.2.2.2.2) K.cl0))))) hS_58 ?_
      refine K.DW.q 6 (by kernel_rfl) rfl rfl (by kernel_rfl) (by kernel_rfl) (fun w hS => K.QR.ldN [.slice q' qb.length cq', .slice s' sb.length cs', .slice m' mb.length cm'] rfl rfl (by kernel_rfl) (by kernel_rfl) (K.cells (K.cl (hS.2.1) (K.cl (hS.2.2.1) (K.cl (hS.2.2.2.1) K.cl0))))) hS_58 ?_
      refine K.DW.l 4 rfl (by kernel_rfl) (by kernel_rfl) (K.OW.call rfl [.agg #[.slice q qa.length cq, .slice s sa.length cs, .slice m ma.length cm], .agg #[.slice q' qb.length cq', .slice s' sb.length cs', .slice m' mb.length cm']] rfl rfl (by kernel_rfl) (same8_ok _ _ _ _ _ _ _ _ _ _ _ _ qa sa qb sb ma mb _ (by omega) (by omega) (by omega) (x1.no c_53) (x2.no c_53) (x3.no c_53) (y1.no c_53) (y2.no c_53) (y3.no c_53)) ?_)
      rintro v_62 w_60 ⟨hv_61, c_59⟩
      have c_63 := c_53.no c_59
      have z_64 := c_63.size
      have zz_65 := c_59.size
      have f_66 := f_56.no c_59
      have f_67 := f_57.no c_59
      rcases Bool.eq_false_or_eq_true (decide (qa = qb ∧ sa = sb ∧ ma = mb)) with hb_68 | hb_68
      ·  -- True
        rw [hb_68] at hv_61; subst hv_61
        have hp_69 := of_decide_eq_true hb_68
        have hS_70 : (fun w => K.Chg K.No w0 w ∧ (w.cell? ⟨r_11, 0, none⟩ = some (.slice q' qb.length cq')) ∧ (w.cell? ⟨r_11, 1, none⟩ = some (.slice s' sb.length cs')) ∧ (w.cell? ⟨r_11, 2, none⟩ = some (.slice m' mb.length cm')) ∧ (w.cell? ⟨r_2, 0, none⟩ = some (.slice q qa.length cq)) ∧ (w.cell? ⟨r_2, 1, none⟩ = some (.slice s sa.length cs)) ∧ (w.cell? ⟨r_2, 2, none⟩ = some (.slice m ma.length cm))) w_60 := ⟨c_63, ((f_67).cell rfl), ((f_67).cell rfl), ((f_67).cell rfl), ((f_66).cell rfl), ((f_66).cell rfl), ((f_66).cell rfl)⟩
        refine ⟨.inl hS_70, ?_⟩
        refine K.DW.l 7 rfl (by kernel_rfl) (by kernel_rfl) (K.OW.call rfl [.agg #[.slice q qa.length cq, .slice s sa.length cs, .slice m ma.length cm], .agg #[.slice q' qb.length cq', .slice s' sb.length cs', .slice m' mb.length cm']] rfl rfl (by kernel_rfl) (lsame8_ok _ _ _ _ _ _ _ _ _ _ _ _ qa sa qb sb ma mb _ (by omega) (by omega) (by omega) (x1.no c_63) (x2.no c_63) (x3.no c_63) (y1.no c_63) (y2.no c_63) (y3.no c_63)) ?_)
        rintro v_74 w_72 ⟨hv_73, c_71⟩
        have c_75 := c_63.no c_71
        have z_76 := c_75.size
        have zz_77 := c_71.size
        have f_78 := f_66.no c_71
        have f_79 := f_67.no c_71
        have hb_80 : decide (qa = qb ∧ sa = sb ∧ ma = mb) = true := hb_68
        rw [hb_80] at hv_73; subst hv_73
        have hS_81 : (fun w => K.Chg K.No w0 w ∧ (w.cell? ⟨r_11, 0, none⟩ = some (.slice q' qb.length cq')) ∧ (w.cell? ⟨r_11, 1, none⟩ = some (.slice s' sb.length cs')) ∧ (w.cell? ⟨r_11, 2, none⟩ = some (.slice m' mb.length cm')) ∧ (w.cell? ⟨r_2, 0, none⟩ = some (.slice q qa.length cq)) ∧ (w.cell? ⟨r_2, 1, none⟩ = some (.slice s sa.length cs)) ∧ (w.cell? ⟨r_2, 2, none⟩ = some (.slice m ma.length cm))) w_72 := ⟨c_75, ((f_79).cell rfl), ((f_79).cell rfl), ((f_79).cell rfl), ((f_78).cell rfl), ((f_78).cell rfl), ((f_78).cell rfl)⟩
        refine ⟨.inl hS_81, ?_⟩
        refine K.DW.l 8 rfl (by kernel_rfl) (by kernel_rfl) (K.OW.q rfl (K.QR.k (v := .bool true) (by kernel_rfl)) ?_)
        refine ⟨.inl hS_81, ?_⟩
        refine K.DW.l 9 rfl (by kernel_rfl) rfl (K.OW.q rfl (K.QR.k (v := .bool true) (by kernel_rfl)) ?_)
        refine ⟨.inl hS_81, ?_⟩
        refine K.DW.l 10 rfl (by kernel_rfl) rfl (K.OW.q rfl (K.QR.k (v := .bool true) (by kernel_rfl)) ?_)
        refine ⟨.inl hS_81, ?_⟩
        refine K.DW.q 11 (by kernel_rfl) rfl rfl (by kernel_rfl) (by kernel_rfl) (fun w hS => K.QR.ldN [.slice q qa.length cq, .slice s sa.length cs, .slice m ma.length cm] rfl rfl (by kernel_rfl) (by kernel_rfl) (K.cells (K.cl (hS.2.2.2.2.1) (K.cl (hS.2.2.2.2.2.1) (K.cl (hS.2.2.2.2.2.2) K.cl0))))) hS_81 ?_
        refine K.DW.l 12 rfl (by kernel_rfl) (by kernel_rfl) (K.OW.q rfl (K.QR.ldN [.slice q qa.length cq, .slice s sa.length cs, .slice m ma.length cm] rfl rfl (by kernel_rfl) (by kernel_rfl) (K.cells (K.cl (f_78.cell rfl) (K.cl (f_78.cell rfl) (K.cl (f_78.cell rfl) K.cl0))))) ?_)
        refine ⟨.inl hS_81, ?_⟩
        refine K.DW.l 13 rfl (by kernel_rfl) (by kernel_rfl) (K.OW.call rfl [.agg #[.slice q qa.length cq, .slice s sa.length cs, .slice m ma.length cm], .agg #[.slice q qa.length cq, .slice s sa.length cs, .slice m ma.length cm]] rfl rfl (by kernel_rfl) (same8_ok _ _ _ _ _ _ _ _ _ _ _ _ qa sa qa sa ma ma _ (by omega) (by omega) (by omega) (x1.no c_75) (x2.no c_75) (x3.no c_75) (x1.no c_75) (x2.no c_75) (x3.no c_75)) ?_)
        rintro v_85 w_83 ⟨hv_84, c_82⟩
        have c_86 := c_75.no c_82
        have z_87 := c_86.size
        have zz_88 := c_82.size
        have f_89 := f_78.no c_82
        have f_90 := f_79.no c_82
        have hb_91 : decide (qa = qa ∧ sa = sa ∧ ma = ma) = true := (by exact decide_eq_true ⟨rfl, rfl, rfl⟩)
        rw [hb_91] at hv_84; subst hv_84
        have hS_92 : (fun w => K.Chg K.No w0 w ∧ (w.cell? ⟨r_11, 0, none⟩ = some (.slice q' qb.length cq')) ∧ (w.cell? ⟨r_11, 1, none⟩ = some (.slice s' sb.length cs')) ∧ (w.cell? ⟨r_11, 2, none⟩ = some (.slice m' mb.length cm')) ∧ (w.cell? ⟨r_2, 0, none⟩ = some (.slice q qa.length cq)) ∧ (w.cell? ⟨r_2, 1, none⟩ = some (.slice s sa.length cs)) ∧ (w.cell? ⟨r_2, 2, none⟩ = some (.slice m ma.length cm))) w_83 := ⟨c_86, ((f_90).cell rfl), ((f_90).cell rfl), ((f_90).cell rfl), ((f_89).cell rfl), ((f_89).cell rfl), ((f_89).cell rfl)⟩
        refine ⟨.inl hS_92, ?_⟩
        refine K.DW.l 14 rfl (by kernel_rfl) rfl (K.OW.q rfl (K.QR.k (v := .bool true) (by kernel_rfl)) ?_)
        refine ⟨.inl hS_92, ?_⟩
        refine K.DW.l 15 rfl (by kernel_rfl) rfl (K.OW.q rfl (K.QR.k (v := .bool true) (by kernel_rfl)) ?_)
        refine ⟨.inl hS_92, ?_⟩
        refine K.DW.done (by kernel_rfl) ?_
        refine K.thn_normal ?_
        refine K.KW.ret ?_
        refine ⟨.inr rfl, rfl, (.bool true), K.res1 rfl rfl, ?_⟩
        exact ⟨rfl, c_86⟩
      ·  -- False
        rw [hb_68] at hv_61; subst hv_61
        have hp_93 := of_decide_eq_false hb_68
        have hS_94 : (fun w => K.Chg K.No w0 w ∧ (w.cell? ⟨r_11, 0, none⟩ = some (.slice q' qb.length cq')) ∧ (w.cell? ⟨r_11, 1, none⟩ = some (.slice s' sb.length cs')) ∧ (w.cell? ⟨r_11, 2, none⟩ = some (.slice m' mb.length cm')) ∧ (w.cell? ⟨r_2, 0, none⟩ = some (.slice q qa.length cq)) ∧ (w.cell? ⟨r_2, 1, none⟩ = some (.slice s sa.length cs)) ∧ (w.cell? ⟨r_2, 2, none⟩ = some (.slice m ma.length cm))) w_60 := ⟨c_63, ((f_67).cell rfl), ((f_67).cell rfl), ((f_67).cell rfl), ((f_66).cell rfl), ((f_66).cell rfl), ((f_66).cell rfl)⟩
        refine ⟨.inl hS_94, ?_⟩
        refine K.DW.l 7 rfl (by kernel_rfl) (by kernel_rfl) (K.OW.call rfl [.agg #[.slice q qa.length cq, .slice s sa.length cs, .slice m ma.length cm], .agg #[.slice q' qb.length cq', .slice s' sb.length cs', .slice m' mb.length cm']] rfl rfl (by kernel_rfl) (lsame8_ok _ _ _ _ _ _ _ _ _ _ _ _ qa sa qb sb ma mb _ (by omega) (by omega) (by omega) (x1.no c_63) (x2.no c_63) (x3.no c_63) (y1.no c_63) (y2.no c_63) (y3.no c_63)) ?_)
        rintro v_98 w_96 ⟨hv_97, c_95⟩
        have c_99 := c_63.no c_95
        have z_100 := c_99.size
        have zz_101 := c_95.size
        have f_102 := f_66.no c_95
        have f_103 := f_67.no c_95
        have hb_104 : decide (qa = qb ∧ sa = sb ∧ ma = mb) = false := hb_68
        rw [hb_104] at hv_97; subst hv_97
        have hS_105 : (fun w => K.Chg K.No w0 w ∧ (w.cell? ⟨r_11, 0, none⟩ = some (.slice q' qb.length cq')) ∧ (w.cell? ⟨r_11, 1, none⟩ = some (.slice s' sb.length cs')) ∧ (w.cell? ⟨r_11, 2, none⟩ = some (.slice m' mb.length cm')) ∧ (w.cell? ⟨r_2, 0, none⟩ = some (.slice q qa.length cq)) ∧ (w.cell? ⟨r_2, 1, none⟩ = some (.slice s sa.length cs)) ∧ (w.cell? ⟨r_2, 2, none⟩ = some (.slice m ma.length cm))) w_96 := ⟨c_99, ((f_103).cell rfl), ((f_103).cell rfl), ((f_103).cell rfl), ((f_102).cell rfl), ((f_102).cell rfl), ((f_102).cell rfl)⟩
        refine ⟨.inl hS_105, ?_⟩
        refine K.DW.l 8 rfl (by kernel_rfl) (by kernel_rfl) (K.OW.q rfl (K.QR.k (v := .bool true) (by kernel_rfl)) ?_)
        refine ⟨.inl hS_105, ?_⟩
        refine K.DW.l 9 rfl (by kernel_rfl) rfl (K.OW.q rfl (K.QR.k (v := .bool true) (by kernel_rfl)) ?_)
        refine ⟨.inl hS_105, ?_⟩
        refine K.DW.l 10 rfl (by kernel_rfl) rfl (K.OW.q rfl (K.QR.k (v := .bool true) (by kernel_rfl)) ?_)
        refine ⟨.inl hS_105, ?_⟩
        refine K.DW.q 11 (by kernel_rfl) rfl rfl (by kernel_rfl) (by kernel_rfl) (fun w hS => K.QR.ldN [.slice q qa.length cq, .slice s sa.length cs, .slice m ma.length cm] rfl rfl (by kernel_rfl) (by kernel_rfl) (K.cells (K.cl (hS.2.2.2.2.1) (K.cl (hS.2.2.2.2.2.1) (K.cl (hS.2.2.2.2.2.2) K.cl0))))) hS_105 ?_
        refine K.DW.l 12 rfl (by kernel_rfl) (by kernel_rfl) (K.OW.q rfl (K.QR.ldN [.slice q qa.length cq, .slice s sa.length cs, .slice m ma.length cm] rfl rfl (by kernel_rfl) (by kernel_rfl) (K.cells (K.cl (f_102.cell rfl) (K.cl (f_102.cell rfl) (K.cl (f_102.cell rfl) K.cl0))))) ?_)
        refine ⟨.inl hS_105, ?_⟩
        refine K.DW.l 13 rfl (by kernel_rfl) (by kernel_rfl) (K.OW.call rfl [.agg #[.slice q qa.length cq, .slice s sa.length cs, .slice m ma.length cm], .agg #[.slice q qa.length cq, .slice s sa.length cs, .slice m ma.length cm]] rfl rfl (by kernel_rfl) (same8_ok _ _ _ _ _ _ _ _ _ _ _ _ qa sa qa sa ma ma _ (by omega) (by omega) (by omega) (x1.no c_99) (x2.no c_99) (x3.no c_99) (x1.no c_99) (x2.no c_99) (x3.no c_99)) ?_)
        rintro v_109 w_107 ⟨hv_108, c_106⟩
        have c_110 := c_99.no c_106
        have z_111 := c_110.size
        have zz_112 := c_106.size
        have f_113 := f_102.no c_106
        have f_114 := f_103.no c_106
        have hb_115 : decide (qa = qa ∧ sa = sa ∧ ma = ma) = true := (by exact decide_eq_true ⟨rfl, rfl, rfl⟩)
        rw [hb_115] at hv_108; subst hv_108
        have hS_116 : (fun w => K.Chg K.No w0 w ∧ (w.cell? ⟨r_11, 0, none⟩ = some (.slice q' qb.length cq')) ∧ (w.cell? ⟨r_11, 1, none⟩ = some (.slice s' sb.length cs')) ∧ (w.cell? ⟨r_11, 2, none⟩ = some (.slice m' mb.length cm')) ∧ (w.cell? ⟨r_2, 0, none⟩ = some (.slice q qa.length cq)) ∧ (w.cell? ⟨r_2, 1, none⟩ = some (.slice s sa.length cs)) ∧ (w.cell? ⟨r_2, 2, none⟩ = some (.slice m ma.length cm))) w_107 := ⟨c_110, ((f_114).cell rfl), ((f_114).cell rfl), ((f_114).cell rfl), ((f_113).cell rfl), ((f_113).cell rfl), ((f_113).cell rfl)⟩
        refine ⟨.inl hS_116, ?_⟩
        refine K.DW.l 14 rfl (by kernel_rfl) rfl (K.OW.q rfl (K.QR.k (v := .bool true) (by kernel_rfl)) ?_)
        refine ⟨.inl hS_116, ?_⟩
        refine K.DW.l 15 rfl (by kernel_rfl) rfl (K.OW.q rfl (K.QR.k (v := .bool true) (by kernel_rfl)) ?_)
        refine ⟨.inl hS_116, ?_⟩
        refine K.DW.done (by kernel_rfl) ?_
        refine K.thn_normal ?_
        refine K.KW.ret ?_
        refine ⟨.inr rfl, rfl, (.bool true), K.res1 rfl rfl, ?_⟩
        exact ⟨rfl, c_110⟩
    ·  -- False
      rw [hb_40] at hv_33; subst hv_33
      have hp_117 := of_decide_eq_false hb_40
      refine K.RW.q rfl (by kernel_rfl) (K.QR.k (v := .bool true) (by kernel_rfl)) ?_
      refine K.RW.q rfl rfl (K.QR.k (v := .bool true) (by kernel_rfl)) ?_
      refine K.RW.nil ?_
      refine K.thn_normal ?_
      refine K.KW.ifT rfl ?_
      refine K.KW.seq ?_
      -- region 2 law.go:84
      refine K.KW.region ?_
      refine K.RW.l rfl (K.OW.call rfl [] rfl rfl (by kernel_rfl) (awake08_ok _) ?_) 
      rintro _ w_119 ⟨rfl, c_118⟩
      have c_120 := c_35.no c_118
      have z_121 := c_120.size
      have zz_122 := c_118.size
      have f_123 := f_38.no c_118
      have f_124 := f_39.no c_118
      refine K.RW.q rfl rfl (K.QR.k (v := .bool true) (by kernel_rfl)) ?_
      refine K.RW.nil ?_
      refine K.thn_normal ?_
      refine K.KW.ret ?_
      refine K.thn_ret ?_
      refine ⟨.inr rfl, rfl, (.bool true), K.res1 rfl rfl, ?_⟩
      exact ⟨rfl, c_120⟩
  ·  -- False
    rw [hb_29] at hv_22; subst hv_22
    have hp_125 := of_decide_eq_false hb_29
    refine K.RW.q rfl rfl (K.QR.k (v := .bool true) (by kernel_rfl)) ?_
    refine K.RW.q rfl rfl (K.QR.k (v := .bool true) (by kernel_rfl)) ?_
    refine K.RW.skip rfl (by kernel_rfl) ?_
    refine K.RW.skip rfl (by kernel_rfl) ?_
    refine K.RW.skip rfl (by kernel_rfl) ?_
    refine K.RW.q rfl rfl (K.QR.k (v := .bool true) (by kernel_rfl)) ?_
    refine K.RW.nil ?_
    refine K.thn_normal ?_
    refine K.KW.ifT rfl ?_
    refine K.KW.seq ?_
    -- region 2 law.go:84
    refine K.KW.region ?_
    refine K.RW.l rfl (K.OW.call rfl [] rfl rfl (by kernel_rfl) (awake08_ok _) ?_) 
    rintro _ w_127 ⟨rfl, c_126⟩
    have c_128 := c_24.no c_126
    have z_129 := c_128.size
    have zz_130 := c_126.size
    have f_131 := f_27.no c_126
    have f_132 := f_28.no c_126
    refine K.RW.q rfl rfl (K.QR.k (v := .bool true) (by kernel_rfl)) ?_
    refine K.RW.nil ?_
    refine K.thn_normal ?_
    refine K.KW.ret ?_
    refine K.thn_ret ?_
    refine ⟨.inr rfl, rfl, (.bool true), K.res1 rfl rfl, ?_⟩
    exact ⟨rfl, c_128⟩

end Go.Proofs.Ytgeihjiichdpbaa
