/- The four statements on package layout. -/
import Derived.Test.YtcmlompigmhddaaFlay3
namespace Go.Proofs.Ytcmlompigmhddaa
open Go.RowKit
set_option linter.unusedVariables false
attribute [local irreducible] K.KW K.RW K.DW K.OW K.QR K.KC

set_option maxHeartbeats 1000000 in
set_option maxRecDepth 100000 in
theorem at_ok (c : Cfg) (n : Nm) (w0 : World) (hc : cfgOk c) :
    K.KC Try.prog 45 #[.agg #[.int .i64 c.th, .int .i64 c.sl, .int .i64 c.lo, .int .i64 c.bu], .agg #[.int .i64 n.k, .int .i64 n.a, .int .i64 n.b]] w0 (fun v w' => K.Chg K.No w0 w' ∧ ((∃ j : Nat, v = .int .i64 j ∧ j < (lasting c).length ∧ nmIs ((lasting c).getD j nm0) n) ∨ (∃ j : Nat, v = .int .i64 (-1 - j) ∧ j < (passing c).length ∧ nmIs ((passing c).getD j nm0) n) ∨ (v = .int .i64 (lns c * 8) ∧ n ∉ lasting c ∧ n ∉ passing c))) := by
  have hll := lasting_len hc
  have hpl := passing_len hc
  have hbd := lay_bd hc
  have hcc := hc
  unfold cfgOk at hcc
  refine K.KC.mk (n := 42) Try.func45 rfl rfl [.agg #[.int .i64 c.th, .int .i64 c.sl, .int .i64 c.lo, .int .i64 c.bu], .agg #[.int .i64 n.k, .int .i64 n.a, .int .i64 n.b]] rfl rfl ?_
  refine K.KW.seq ?_
  -- region 0 ref.go:91
  refine K.KW.region ?_
  refine K.RW.l rfl (K.OW.new (t := 63) rfl (fun r => .pointer (some ⟨r, 0, none⟩)) [.int .i64 c.th, .int .i64 c.sl, .int .i64 c.lo, .int .i64 c.bu] (by kernel_rfl) ?_) 
  intro w_1 r_2 hr_3 e_4 hs_5 b_6
  have c_7 := e_4
  have z_8 := c_7.size
  refine K.RW.l rfl (K.OW.new (t := 81) rfl (fun r => .pointer (some ⟨r, 0, none⟩)) [.int .i64 n.k, .int .i64 n.a, .int .i64 n.b] (by kernel_rfl) ?_) 
  intro w_9 r_10 hr_11 e_12 hs_13 b_14
  have c_15 := c_7.no e_12
  have z_16 := c_15.size
  have f_17 := b_6.no e_12
  refine K.RW.q rfl rfl (K.QR.k (v := .int .i64 0) (by kernel_rfl)) ?_
  refine K.RW.nil ?_
  refine K.thn_normal ?_
  refine K.KW.seq ?_
  -- region 1 ref.go:92
  refine K.KW.region ?_
  refine K.RW.q rfl rfl (K.QR.ldN [.int .i64 c.th, .int .i64 c.sl, .int .i64 c.lo, .int .i64 c.bu] rfl rfl (by kernel_rfl) (by kernel_rfl) (K.cells (K.cl (f_17.cell rfl) (K.cl (f_17.cell rfl) (K.cl (f_17.cell rfl) (K.cl (f_17.cell rfl) K.cl0)))))) ?_
  refine K.RW.l rfl (K.OW.call rfl [.agg #[.int .i64 c.th, .int .i64 c.sl, .int .i64 c.lo, .int .i64 c.bu]] rfl rfl (by kernel_rfl) (lasting_ok c _ (by assumption)) ?_) 
  rintro _ w_24 ⟨r_18, m_19, cc_20, rfl, c_21, o_22, rfl⟩
  have c_25 := c_15.no c_21
  have z_26 := c_25.size
  have f_27 := f_17.no c_21
  have f_28 := b_14.no c_21
  have o_29 := K.Own.mono (base' := w0.heap.size) o_22 (by omega)
  refine K.RW.q rfl rfl (K.QR.k (v := .slice r_18 ((lasting c).length) cc_20) (by kernel_rfl)) ?_
  refine K.RW.nil ?_
  refine K.thn_normal ?_
  refine K.KW.seq ?_
  refine K.KW.seq ?_
  -- region 2 ref.go:93
  refine K.KW.region ?_
  refine K.RW.q rfl rfl (K.QR.k (v := .int .i64 0) (by kernel_rfl)) ?_
  refine K.RW.nil ?_
  refine K.thn_normal ?_
  refine K.KW.block ?_
  refine K.KW.loop (fun m_ F_ w_30 => ∃ (i : Nat), m_ = (lasting c).length - i ∧ K.Sl F_ [(0, .agg #[.int .i64 c.th, .int .i64 c.sl, .int .i64 c.lo, .int .i64 c.bu]), (1, .agg #[.int .i64 n.k, .int .i64 n.a, .int .i64 n.b]), (2, .pointer (some ⟨r_2, 0, none⟩)), (3, .pointer (some ⟨r_10, 0, none⟩)), (5, .slice r_18 ((lasting c).length) cc_20), (6, .int .i64 ((i : Nat) : Int))] ∧ i ≤ (lasting c).length ∧ (∀ j, j < i → ¬ nmIs ((lasting c).getD j nm0) n) ∧ K.Chg K.No w0 w_30 ∧ K.Own w_30 w0.heap.size 81 3 r_18 ((lasting c).length) cc_20 (((lasting c)).flatMap cNm) ∧ K.Blk w_30 r_2 63 [.int .i64 c.th, .int .i64 c.sl, .int .i64 c.lo, .int .i64 c.bu] ∧ K.Blk w_30 r_10 81 [.int .i64 n.k, .int .i64 n.a, .int .i64 n.b]) ((fun (i : Nat) => (lasting c).length - i) 0) ?_ ?_
  · -- the loop begins
    exact ⟨0, rfl, ⟨by rfl, by rfl, by rfl, by rfl, by rfl, by rfl, trivial⟩, (by omega), (fun j h => by omega), c_25, o_29, f_27, f_28⟩
  · -- a round
    intro m_34 F_35 w_30 hI
    obtain ⟨i, rfl, sl_36, p_38, p_39, c_37, f_40, f_41, f_42⟩ := hI
    rw [← K.Sl.puts sl_36]; clear sl_36
    have z_43 := c_37.size
    refine K.KW.seq ?_
    refine K.KW.seq ?_
    -- region 3 ref.go:93
    refine K.KW.region ?_
    refine K.RW.q rfl rfl (K.QR.k (v := .int .i64 ((i : Nat) : Int)) (by kernel_rfl)) ?_
    refine K.RW.q rfl rfl (K.QR.k (v := .slice r_18 ((lasting c).length) cc_20) (by kernel_rfl)) ?_
    refine K.RW.q rfl rfl (K.QR.len (P := Try.prog) rfl rfl Try.underlying68) ?_
    by_cases h_44 : (((i : Nat) : Int) : Int) < ((((lasting c).length : Nat) : Int) : Int)
    ·  -- yes
      refine K.RW.q rfl rfl (K.QR.nice (v := .bool (decide ((((i : Nat) : Int) : Int) < ((((lasting c).length : Nat) : Int) : Int)))) (by kernel_rfl) (congrArg Value.bool (decide_eq_true h_44))) ?_
      refine K.RW.nil ?_
      refine K.thn_normal ?_
      refine K.KW.ifT rfl ?_
      refine K.KW.skip ?_
      refine K.thn_normal ?_
      refine K.KW.seq ?_
      refine K.KW.block ?_
      refine K.KW.seq ?_
      -- region 5 ref.go:94
      obtain ⟨b_45, rfl, gb_47, gl_48⟩ := f_40.some_ (by omega)
      refine K.KW.drawn (fun w => K.Chg K.No w0 w ∧ (w.cell? ⟨r_10, 0, none⟩ = some (.int .i64 n.k)) ∧ (w.cell? ⟨r_10, 1, none⟩ = some (.int .i64 n.a)) ∧ (w.cell? ⟨r_10, 2, none⟩ = some (.int .i64 n.b)) ∧ K.Own w w0.heap.size 81 3 (some ⟨b_45, 0, none⟩) ((lasting c).length) cc_20 (((lasting c)).flatMap cNm)) (by kernel_rfl) ?_
      intro w_49 e_50 hs_51
      have c_53 := c_37.no e_50
      have z_54 := c_53.size
      have f_55 := f_40.no e_50
      have f_56 := f_41.no e_50
      have f_57 := f_42.no e_50
      have hS_52 : (fun w => K.Chg K.No w0 w ∧ (w.cell? ⟨r_10, 0, none⟩ = some (.int .i64 n.k)) ∧ (w.cell? ⟨r_10, 1, none⟩ = some (.int .i64 n.a)) ∧ (w.cell? ⟨r_10, 2, none⟩ = some (.int .i64 n.b)) ∧ K.Own w w0.heap.size 81 3 (some ⟨b_45, 0, none⟩) ((lasting c).length) cc_20 (((lasting c)).flatMap cNm)) w_49 := ⟨c_53, ((f_57).cell rfl), ((f_57).cell rfl), ((f_57).cell rfl), f_55⟩
      refine K.DW.q 0 (by kernel_rfl) rfl rfl (by kernel_rfl) rfl (fun w hS => K.QR.k (v := .slice (some ⟨b_45, 0, none⟩) ((lasting c).length) cc_20) (by kernel_rfl)) hS_52 ?_
      refine K.DW.q 1 (by kernel_rfl) rfl rfl (by kernel_rfl) rfl (fun w hS => K.QR.k (v := .int .i64 ((i : Nat) : Int)) (by kernel_rfl)) hS_52 ?_
      refine K.DW.q 2 (by kernel_rfl) rfl rfl (by kernel_rfl) rfl (fun w hS => K.QR.ix (0 + i * 3) 3 rfl rfl rfl Try.underlying68 (by kernel_rfl) (by omega) (by simp)) hS_52 ?_
      refine K.DW.q 3 (by kernel_rfl) rfl rfl (by kernel_rfl) rfl (fun w hS => K.QR.ldN [.int .i64 (((lasting c).getD i nm0).k), .int .i64 (((lasting c).getD i nm0).a), .int .i64 (((lasting c).getD i nm0).b)] rfl rfl (by kernel_rfl) (by kernel_rfl) (K.cells (K.cl ((K.Own.rowE nm0 hS.2.2.2.2 rfl (fun _ => rfl)).ld i (by omega) 0 _ rfl) (K.cl ((K.Own.rowE nm0 hS.2.2.2.2 rfl (fun _ => rfl)).ld i (by omega) 1 _ rfl) (K.cl ((K.Own.rowE nm0 hS.2.2.2.2 rfl (fun _ => rfl)).ld i (by omega) 2 _ rfl) K.cl0))))) hS_52 ?_
      refine K.DW.q 4 (by kernel_rfl) rfl rfl (by kernel_rfl) rfl (fun w hS => K.QR.ldN [.int .i64 n.k, .int .i64 n.a, .int .i64 n.b] rfl rfl (by kernel_rfl) (by kernel_rfl) (K.cells (K.cl (hS.2.1) (K.cl (hS.2.2.1) (K.cl (hS.2.2.2.1) K.cl0))))) hS_52 ?_
      by_cases h_58 : (((lasting c).getD i nm0).k : Int) = n.k ∧ (((lasting c).getD i nm0).a : Int) = n.a ∧ (((lasting c).getD i nm0).b : Int) = n.b
      ·  -- yes
        refine K.DW.q 5 (by kernel_rfl) rfl rfl (by kernel_rfl) rfl (fun w hS => K.QR.eqS (by kernel_rfl) rfl rfl rfl (eqNm_t h_58)) hS_52 ?_
        refine K.DW.done (by kernel_rfl) ?_
        refine K.thn_normal ?_
        refine K.KW.ifT rfl ?_
        refine K.KW.seq ?_
        -- region 6 ref.go:95
        refine K.KW.region ?_
        refine K.RW.q rfl rfl (K.QR.k (v := .int .i64 ((i : Nat) : Int)) (by kernel_rfl)) ?_
        refine K.RW.q rfl rfl (K.QR.k (v := .int .i64 ((i : Nat) : Int)) (by kernel_rfl)) ?_
        refine K.RW.nil ?_
        refine K.thn_normal ?_
        refine K.KW.ret ?_
        refine K.blk_ret ?_
        refine K.thn_ret ?_
        refine K.thn_ret ?_
        refine K.blk_ret ?_
        refine K.thn_ret ?_
        refine ⟨.inr rfl, (.int .i64 ((i : Nat) : Int)), K.res1 rfl rfl, ?_⟩
        exact ⟨c_53, .inl ⟨i, rfl, by omega, by assumption⟩⟩
      ·  -- no
        refine K.DW.q 5 (by kernel_rfl) rfl rfl (by kernel_rfl) rfl (fun w hS => K.QR.eqS (by kernel_rfl) rfl rfl rfl (eqNm_f h_58)) hS_52 ?_
        refine K.DW.done (by kernel_rfl) ?_
        refine K.thn_normal ?_
        refine K.KW.ifF rfl ?_
        refine K.KW.skip ?_
        refine K.blk_normal ?_
        refine K.thn_normal ?_
        -- region 4 ref.go:93
        refine K.KW.region ?_
        refine K.RW.q rfl rfl (K.QR.k (v := .int .i64 ((i : Nat) : Int)) (by kernel_rfl)) ?_
        refine K.RW.q rfl rfl (K.QR.n64 ((((i : Nat) : Int) : Int) + (1 : Int)) ((i + 1 : Nat) : Int) (by kernel_rfl) (by omega)) ?_
        refine K.RW.q rfl rfl (K.QR.k (v := .int .i64 ((i + 1 : Nat) : Int)) (by kernel_rfl)) ?_
        refine K.RW.nil ?_
        refine K.thn_normal ?_
        refine ⟨_, ?_, i + 1, rfl, ⟨by rfl, by rfl, by rfl, by rfl, by rfl, by rfl, trivial⟩, (by omega), (fun j h => by rcases Nat.lt_or_ge j i with h2 | h2 <;> first | exact (by assumption : ∀ j, j < i → ¬ nmIs ((lasting c).getD j nm0) n) j h2 | (rw [show j = i by omega]; assumption)), c_53, f_55, f_56, f_57⟩
        omega
    ·  -- no
      refine K.RW.q rfl rfl (K.QR.nice (v := .bool (decide ((((i : Nat) : Int) : Int) < ((((lasting c).length : Nat) : Int) : Int)))) (by kernel_rfl) (congrArg Value.bool (decide_eq_false h_44))) ?_
      refine K.RW.nil ?_
      refine K.thn_normal ?_
      refine K.KW.ifF rfl ?_
      refine K.KW.exit ?_
      refine K.thn_exit ?_
      refine K.thn_exit ?_
      refine K.blk_hit ?_
      refine K.thn_normal ?_
      refine K.KW.seq ?_
      -- region 7 ref.go:98
      refine K.KW.region ?_
      refine K.RW.q rfl rfl (K.QR.ldN [.int .i64 c.th, .int .i64 c.sl, .int .i64 c.lo, .int .i64 c.bu] rfl rfl (by kernel_rfl) (by kernel_rfl) (K.cells (K.cl (f_41.cell rfl) (K.cl (f_41.cell rfl) (K.cl (f_41.cell rfl) (K.cl (f_41.cell rfl) K.cl0)))))) ?_
      refine K.RW.l rfl (K.OW.call rfl [.agg #[.int .i64 c.th, .int .i64 c.sl, .int .i64 c.lo, .int .i64 c.bu]] rfl rfl (by kernel_rfl) (passing_ok c _ (by assumption)) ?_) 
      rintro _ w_65 ⟨r_59, m_60, cc_61, rfl, c_62, o_63, rfl⟩
      have c_66 := c_37.no c_62
      have z_67 := c_66.size
      have f_68 := f_40.no c_62
      have f_69 := f_41.no c_62
      have f_70 := f_42.no c_62
      have o_71 := K.Own.mono (base' := w0.heap.size) o_63 (by omega)
      refine K.RW.q rfl rfl (K.QR.k (v := .slice r_59 ((passing c).length) cc_61) (by kernel_rfl)) ?_
      refine K.RW.nil ?_
      refine K.thn_normal ?_
      refine K.KW.seq ?_
      refine K.KW.seq ?_
      -- region 8 ref.go:99
      refine K.KW.region ?_
      refine K.RW.q rfl rfl (K.QR.k (v := .int .i64 0) (by kernel_rfl)) ?_
      refine K.RW.nil ?_
      refine K.thn_normal ?_
      refine K.KW.block ?_
      refine K.KW.loop (fun m_ F_ w_72 => ∃ (k : Nat), m_ = (passing c).length - k ∧ K.Sl F_ [(0, .agg #[.int .i64 c.th, .int .i64 c.sl, .int .i64 c.lo, .int .i64 c.bu]), (1, .agg #[.int .i64 n.k, .int .i64 n.a, .int .i64 n.b]), (3, .pointer (some ⟨r_10, 0, none⟩)), (5, .slice r_18 ((lasting c).length) cc_20), (7, .slice r_59 ((passing c).length) cc_61), (8, .int .i64 ((k : Nat) : Int))] ∧ k ≤ (passing c).length ∧ (∀ j, j < k → ¬ nmIs ((passing c).getD j nm0) n) ∧ K.Chg K.No w0 w_72 ∧ K.Own w_72 w0.heap.size 81 3 r_18 ((lasting c).length) cc_20 (((lasting c)).flatMap cNm) ∧ K.Own w_72 w0.heap.size 81 3 r_59 ((passing c).length) cc_61 (((passing c)).flatMap cNm) ∧ K.Blk w_72 r_2 63 [.int .i64 c.th, .int .i64 c.sl, .int .i64 c.lo, .int .i64 c.bu] ∧ K.Blk w_72 r_10 81 [.int .i64 n.k, .int .i64 n.a, .int .i64 n.b]) ((fun (k : Nat) => (passing c).length - k) 0) ?_ ?_
      · -- the loop begins
        exact ⟨0, rfl, ⟨by rfl, by rfl, by rfl, by rfl, by rfl, by rfl, trivial⟩, (by omega), (fun j h => by omega), c_66, f_68, o_71, f_69, f_70⟩
      · -- a round
        intro m_77 F_78 w_72 hI
        obtain ⟨k, rfl, sl_79, p_81, p_82, c_80, f_83, f_84, f_85, f_86⟩ := hI
        rw [← K.Sl.puts sl_79]; clear sl_79
        have z_87 := c_80.size
        refine K.KW.seq ?_
        refine K.KW.seq ?_
        -- region 9 ref.go:99
        refine K.KW.region ?_
        refine K.RW.q rfl rfl (K.QR.k (v := .int .i64 ((k : Nat) : Int)) (by kernel_rfl)) ?_
        refine K.RW.q rfl rfl (K.QR.k (v := .slice r_59 ((passing c).length) cc_61) (by kernel_rfl)) ?_
        refine K.RW.q rfl rfl (K.QR.len (P := Try.prog) rfl rfl Try.underlying68) ?_
        by_cases h_88 : (((k : Nat) : Int) : Int) < ((((passing c).length : Nat) : Int) : Int)
        ·  -- yes
          refine K.RW.q rfl rfl (K.QR.nice (v := .bool (decide ((((k : Nat) : Int) : Int) < ((((passing c).length : Nat) : Int) : Int)))) (by kernel_rfl) (congrArg Value.bool (decide_eq_true h_88))) ?_
          refine K.RW.nil ?_
          refine K.thn_normal ?_
          refine K.KW.ifT rfl ?_
          refine K.KW.skip ?_
          refine K.thn_normal ?_
          refine K.KW.seq ?_
          refine K.KW.block ?_
          refine K.KW.seq ?_
          -- region 11 ref.go:100
          obtain ⟨b_89, rfl, gb_91, gl_92⟩ := f_84.some_ (by omega)
          refine K.KW.drawn (fun w => K.Chg K.No w0 w ∧ (w.cell? ⟨r_10, 0, none⟩ = some (.int .i64 n.k)) ∧ (w.cell? ⟨r_10, 1, none⟩ = some (.int .i64 n.a)) ∧ (w.cell? ⟨r_10, 2, none⟩ = some (.int .i64 n.b)) ∧ K.Own w w0.heap.size 81 3 (some ⟨b_89, 0, none⟩) ((passing c).length) cc_61 (((passing c)).flatMap cNm)) (by kernel_rfl) ?_
          intro w_93 e_94 hs_95
          have c_97 := c_80.no e_94
          have z_98 := c_97.size
          have f_99 := f_83.no e_94
          have f_100 := f_84.no e_94
          have f_101 := f_85.no e_94
          have f_102 := f_86.no e_94
          have hS_96 : (fun w => K.Chg K.No w0 w ∧ (w.cell? ⟨r_10, 0, none⟩ = some (.int .i64 n.k)) ∧ (w.cell? ⟨r_10, 1, none⟩ = some (.int .i64 n.a)) ∧ (w.cell? ⟨r_10, 2, none⟩ = some (.int .i64 n.b)) ∧ K.Own w w0.heap.size 81 3 (some ⟨b_89, 0, none⟩) ((passing c).length) cc_61 (((passing c)).flatMap cNm)) w_93 := ⟨c_97, ((f_102).cell rfl), ((f_102).cell rfl), ((f_102).cell rfl), f_100⟩
          refine K.DW.q 0 (by kernel_rfl) rfl rfl (by kernel_rfl) rfl (fun w hS => K.QR.k (v := .slice (some ⟨b_89, 0, none⟩) ((passing c).length) cc_61) (by kernel_rfl)) hS_96 ?_
          refine K.DW.q 1 (by kernel_rfl) rfl rfl (by kernel_rfl) rfl (fun w hS => K.QR.k (v := .int .i64 ((k : Nat) : Int)) (by kernel_rfl)) hS_96 ?_
          refine K.DW.q 2 (by kernel_rfl) rfl rfl (by kernel_rfl) rfl (fun w hS => K.QR.ix (0 + k * 3) 3 rfl rfl rfl Try.underlying68 (by kernel_rfl) (by omega) (by simp)) hS_96 ?_
          refine K.DW.q 3 (by kernel_rfl) rfl rfl (by kernel_rfl) rfl (fun w hS => K.QR.ldN [.int .i64 (((passing c).getD k nm0).k), .int .i64 (((passing c).getD k nm0).a), .int .i64 (((passing c).getD k nm0).b)] rfl rfl (by kernel_rfl) (by kernel_rfl) (K.cells (K.cl ((K.Own.rowE nm0 hS.2.2.2.2 rfl (fun _ => rfl)).ld k (by omega) 0 _ rfl) (K.cl ((K.Own.rowE nm0 hS.2.2.2.2 rfl (fun _ => rfl)).ld k (by omega) 1 _ rfl) (K.cl ((K.Own.rowE nm0 hS.2.2.2.2 rfl (fun _ => rfl)).ld k (by omega) 2 _ rfl) K.cl0))))) hS_96 ?_
          refine K.DW.q 4 (by kernel_rfl) rfl rfl (by kernel_rfl) rfl (fun w hS => K.QR.ldN [.int .i64 n.k, .int .i64 n.a, .int .i64 n.b] rfl rfl (by kernel_rfl) (by kernel_rfl) (K.cells (K.cl (hS.2.1) (K.cl (hS.2.2.1) (K.cl (hS.2.2.2.1) K.cl0))))) hS_96 ?_
          by_cases h_103 : (((passing c).getD k nm0).k : Int) = n.k ∧ (((passing c).getD k nm0).a : Int) = n.a ∧ (((passing c).getD k nm0).b : Int) = n.b
          ·  -- yes
            refine K.DW.q 5 (by kernel_rfl) rfl rfl (by kernel_rfl) rfl (fun w hS => K.QR.eqS (by kernel_rfl) rfl rfl rfl (eqNm_t h_103)) hS_96 ?_
            refine K.DW.done (by kernel_rfl) ?_
            refine K.thn_normal ?_
            refine K.KW.ifT rfl ?_
            refine K.KW.seq ?_
            -- region 12 ref.go:101
            refine K.KW.region ?_
            refine K.RW.q rfl rfl (K.QR.k (v := .int .i64 ((k : Nat) : Int)) (by kernel_rfl)) ?_
            refine K.RW.q rfl rfl (K.QR.n64 (((-1) : Int) - (((k : Nat) : Int) : Int)) (((-1) : Int) - (((k : Nat) : Int) : Int)) (by kernel_rfl) (by omega)) ?_
            refine K.RW.q rfl rfl (K.QR.k (v := .int .i64 (((-1) : Int) - (((k : Nat) : Int) : Int))) (by kernel_rfl)) ?_
            refine K.RW.nil ?_
            refine K.thn_normal ?_
            refine K.KW.ret ?_
            refine K.blk_ret ?_
            refine K.thn_ret ?_
            refine K.thn_ret ?_
            refine K.blk_ret ?_
            refine K.thn_ret ?_
            refine ⟨.inr rfl, (.int .i64 (((-1) : Int) - (((k : Nat) : Int) : Int))), K.res1 rfl rfl, ?_⟩
            exact ⟨c_97, .inr (.inl ⟨k, rfl, by omega, by assumption⟩)⟩
          ·  -- no
            refine K.DW.q 5 (by kernel_rfl) rfl rfl (by kernel_rfl) rfl (fun w hS => K.QR.eqS (by kernel_rfl) rfl rfl rfl (eqNm_f h_103)) hS_96 ?_
            refine K.DW.done (by kernel_rfl) ?_
            refine K.thn_normal ?_
            refine K.KW.ifF rfl ?_
            refine K.KW.skip ?_
            refine K.blk_normal ?_
            refine K.thn_normal ?_
            -- region 10 ref.go:99
            refine K.KW.region ?_
            refine K.RW.q rfl rfl (K.QR.k (v := .int .i64 ((k : Nat) : Int)) (by kernel_rfl)) ?_
            refine K.RW.q rfl rfl (K.QR.n64 ((((k : Nat) : Int) : Int) + (1 : Int)) ((k + 1 : Nat) : Int) (by kernel_rfl) (by omega)) ?_
            refine K.RW.q rfl rfl (K.QR.k (v := .int .i64 ((k + 1 : Nat) : Int)) (by kernel_rfl)) ?_
            refine K.RW.nil ?_
            refine K.thn_normal ?_
            refine ⟨_, ?_, k + 1, rfl, ⟨by rfl, by rfl, by rfl, by rfl, by rfl, by rfl, trivial⟩, (by omega), (fun j h => by rcases Nat.lt_or_ge j k with h2 | h2 <;> first | exact (by assumption : ∀ j, j < k → ¬ nmIs ((passing c).getD j nm0) n) j h2 | (rw [show j = k by omega]; assumption)), c_97, f_99, f_100, f_101, f_102⟩
            omega
        ·  -- no
          refine K.RW.q rfl rfl (K.QR.nice (v := .bool (decide ((((k : Nat) : Int) : Int) < ((((passing c).length : Nat) : Int) : Int)))) (by kernel_rfl) (congrArg Value.bool (decide_eq_false h_88))) ?_
          refine K.RW.nil ?_
          refine K.thn_normal ?_
          refine K.KW.ifF rfl ?_
          refine K.KW.exit ?_
          refine K.thn_exit ?_
          refine K.thn_exit ?_
          refine K.blk_hit ?_
          refine K.thn_normal ?_
          refine K.KW.seq ?_
          -- region 13 ref.go:104
          refine K.KW.region ?_
          refine K.RW.q rfl rfl (K.QR.k (v := .slice r_18 ((lasting c).length) cc_20) (by kernel_rfl)) ?_
          refine K.RW.q rfl rfl (K.QR.len (P := Try.prog) rfl rfl Try.underlying68) ?_
          refine K.RW.q rfl rfl (K.QR.k (v := .int .i64 (((lasting c).length : Nat) : Int)) (by kernel_rfl)) ?_
          refine K.RW.nil ?_
          refine K.thn_normal ?_
          refine K.KW.ret ?_
          refine ⟨.inr rfl, (.int .i64 (((lasting c).length : Nat) : Int)), K.res1 rfl rfl, ?_⟩
          exact ⟨c_80, .inr (.inr ⟨congrArg (Value.int .i64) (by omega), not_mem_of fun j hj => (by assumption : ∀ j, j < i → ¬ nmIs ((lasting c).getD j nm0) n) j (by omega), not_mem_of fun j hj => (by assumption : ∀ j, j < k → ¬ nmIs ((passing c).getD j nm0) n) j (by omega)⟩)⟩

def fewC (c : Cfg) : Prop := (c.th ≤ 12 ∧ c.sl ≤ 60) ∨ ¬ cfgOk c
instance (c : Cfg) : Decidable (fewC c) := by unfold fewC; infer_instance

set_option maxHeartbeats 1000000 in
set_option maxRecDepth 100000 in
theorem few_ok (c : Cfg) (w0 : World) :
    K.KC Try.prog 36 #[.agg #[.int .i64 c.th, .int .i64 c.sl, .int .i64 c.lo, .int .i64 c.bu]] w0 (fun v w' => v = .bool (decide (fewC c)) ∧ K.Chg K.No w0 w') := by
  refine K.KC.mk (n := 16) Try.func36 rfl rfl [.agg #[.int .i64 c.th, .int .i64 c.sl, .int .i64 c.lo, .int .i64 c.bu]] rfl rfl ?_
  refine K.KW.seq ?_
  -- region 0 law.go:55
  refine K.KW.region ?_
  refine K.RW.l rfl (K.OW.new (t := 63) rfl (fun r => .pointer (some ⟨r, 0, none⟩)) [.int .i64 c.th, .int .i64 c.sl, .int .i64 c.lo, .int .i64 c.bu] (by kernel_rfl) ?_) 
  intro w_1 r_2 hr_3 e_4 hs_5 b_6
  have c_7 := e_4
  have z_8 := c_7.size
  refine K.RW.q rfl rfl (K.QR.k (v := .bool false) (by kernel_rfl)) ?_
  refine K.RW.nil ?_
  refine K.thn_normal ?_
  refine K.KW.seq ?_
  -- region 1 law.go:56
  refine K.KW.region ?_
  refine K.RW.q rfl rfl (K.QR.k (v := .pointer (some ⟨r_2, 0, none⟩)) (by kernel_rfl)) ?_
  refine K.RW.q rfl rfl (K.QR.ld1 (v := .int .i64 c.th) rfl rfl (by kernel_rfl) (b_6.cell rfl)) ?_
  by_cases h_9 : (c.th : Int) ≤ (12 : Int)
  ·  -- yes
    refine K.RW.q rfl rfl (K.QR.nice (v := .bool (decide ((c.th : Int) ≤ (12 : Int)))) (by kernel_rfl) (congrArg Value.bool (decide_eq_true h_9))) ?_
    refine K.RW.q rfl rfl (K.QR.k (v := .bool true) (by kernel_rfl)) ?_
    refine K.RW.q rfl (by kernel_rfl) (K.QR.k (v := .pointer (some ⟨r_2, 1, none⟩)) (by kernel_rfl)) ?_
    refine K.RW.q rfl (by kernel_rfl) (K.QR.ld1 (v := .int .i64 c.sl) rfl rfl (by kernel_rfl) (b_6.cell rfl)) ?_
    by_cases h_10 : (c.sl : Int) ≤ (60 : Int)
    ·  -- yes
      refine K.RW.q rfl (by kernel_rfl) (K.QR.nice (v := .bool (decide ((c.sl : Int) ≤ (60 : Int)))) (by kernel_rfl) (congrArg Value.bool (decide_eq_true h_10))) ?_
      refine K.RW.q rfl rfl (K.QR.k (v := .bool true) (by kernel_rfl)) ?_
      refine K.RW.q rfl rfl (K.QR.k (v := .bool true) (by kernel_rfl)) ?_
      refine K.RW.skip rfl (by kernel_rfl) ?_
      refine K.RW.skip rfl (by kernel_rfl) ?_
      refine K.RW.skip rfl (by kernel_rfl) ?_
      refine K.RW.q rfl rfl (K.QR.k (v := .bool true) (by kernel_rfl)) ?_
      refine K.RW.q rfl rfl (K.QR.k (v := .bool true) (by kernel_rfl)) ?_
      refine K.RW.nil ?_
      refine K.thn_normal ?_
      refine K.KW.ret ?_
      refine ⟨.inr rfl, (.bool true), K.res1 rfl rfl, ?_⟩
      exact ⟨congrArg Value.bool (by first | exact (decide_eq_true (by unfold fewC; first | (left; omega) | (right; assumption))).symm | exact (decide_eq_false (by unfold fewC; rintro (h | h) <;> first | omega | contradiction)).symm), c_7⟩
    ·  -- no
      refine K.RW.q rfl (by kernel_rfl) (K.QR.nice (v := .bool (decide ((c.sl : Int) ≤ (60 : Int)))) (by kernel_rfl) (congrArg Value.bool (decide_eq_false h_10))) ?_
      refine K.RW.q rfl rfl (K.QR.k (v := .bool false) (by kernel_rfl)) ?_
      refine K.RW.q rfl rfl (K.QR.k (v := .bool false) (by kernel_rfl)) ?_
      refine K.RW.q rfl (by kernel_rfl) (K.QR.ldN [.int .i64 c.th, .int .i64 c.sl, .int .i64 c.lo, .int .i64 c.bu] rfl rfl (by kernel_rfl) (by kernel_rfl) (K.cells (K.cl (b_6.cell rfl) (K.cl (b_6.cell rfl) (K.cl (b_6.cell rfl) (K.cl (b_6.cell rfl) K.cl0)))))) ?_
      refine K.RW.l (by kernel_rfl) (K.OW.call rfl [.agg #[.int .i64 c.th, .int .i64 c.sl, .int .i64 c.lo, .int .i64 c.bu]] rfl rfl (by kernel_rfl) (rright05_ok c _) ?_) 
      rintro v_14 w_12 ⟨hv_13, c_11⟩
      have c_15 := c_7.no c_11
      have z_16 := c_15.size
      have f_17 := b_6.no c_11
      rcases Bool.eq_false_or_eq_true (decide (cfgOk c)) with hb_18 | hb_18
      ·  -- True
        rw [hb_18] at hv_13; subst hv_13
        have hp_19 := of_decide_eq_true hb_18
        refine K.RW.q rfl (by kernel_rfl) (K.QR.k (v := .bool false) (by kernel_rfl)) ?_
        refine K.RW.q rfl rfl (K.QR.k (v := .bool false) (by kernel_rfl)) ?_
        refine K.RW.q rfl rfl (K.QR.k (v := .bool false) (by kernel_rfl)) ?_
        refine K.RW.nil ?_
        refine K.thn_normal ?_
        refine K.KW.ret ?_
        refine ⟨.inr rfl, (.bool false), K.res1 rfl rfl, ?_⟩
        exact ⟨congrArg Value.bool (by first | exact (decide_eq_true (by unfold fewC; first | (left; omega) | (right; assumption))).symm | exact (decide_eq_false (by unfold fewC; rintro (h | h) <;> first | omega | contradiction)).symm), c_15⟩
      ·  -- False
        rw [hb_18] at hv_13; subst hv_13
        have hp_20 := of_decide_eq_false hb_18
        refine K.RW.q rfl (by kernel_rfl) (K.QR.k (v := .bool true) (by kernel_rfl)) ?_
        refine K.RW.q rfl rfl (K.QR.k (v := .bool true) (by kernel_rfl)) ?_
        refine K.RW.q rfl rfl (K.QR.k (v := .bool true) (by kernel_rfl)) ?_
        refine K.RW.nil ?_
        refine K.thn_normal ?_
        refine K.KW.ret ?_
        refine ⟨.inr rfl, (.bool true), K.res1 rfl rfl, ?_⟩
        exact ⟨congrArg Value.bool (by first | exact (decide_eq_true (by unfold fewC; first | (left; omega) | (right; assumption))).symm | exact (decide_eq_false (by unfold fewC; rintro (h | h) <;> first | omega | contradiction)).symm), c_15⟩
  ·  -- no
    refine K.RW.q rfl rfl (K.QR.nice (v := .bool (decide ((c.th : Int) ≤ (12 : Int)))) (by kernel_rfl) (congrArg Value.bool (decide_eq_false h_9))) ?_
    refine K.RW.q rfl rfl (K.QR.k (v := .bool false) (by kernel_rfl)) ?_
    refine K.RW.skip rfl (by kernel_rfl) ?_
    refine K.RW.skip rfl (by kernel_rfl) ?_
    refine K.RW.skip rfl (by kernel_rfl) ?_
    refine K.RW.q rfl rfl (K.QR.k (v := .bool false) (by kernel_rfl)) ?_
    refine K.RW.q rfl rfl (K.QR.k (v := .bool false) (by kernel_rfl)) ?_
    refine K.RW.q rfl (by kernel_rfl) (K.QR.ldN [.int .i64 c.th, .int .i64 c.sl, .int .i64 c.lo, .int .i64 c.bu] rfl rfl (by kernel_rfl) (by kernel_rfl) (K.cells (K.cl (b_6.cell rfl) (K.cl (b_6.cell rfl) (K.cl (b_6.cell rfl) (K.cl (b_6.cell rfl) K.cl0)))))) ?_
    refine K.RW.l (by kernel_rfl) (K.OW.call rfl [.agg #[.int .i64 c.th, .int .i64 c.sl, .int .i64 c.lo, .int .i64 c.bu]] rfl rfl (by kernel_rfl) (rright05_ok c _) ?_) 
    rintro v_24 w_22 ⟨hv_23, c_21⟩
    have c_25 := c_7.no c_21
    have z_26 := c_25.size
    have f_27 := b_6.no c_21
    rcases Bool.eq_false_or_eq_true (decide (cfgOk c)) with hb_28 | hb_28
    ·  -- True
      rw [hb_28] at hv_23; subst hv_23
      have hp_29 := of_decide_eq_true hb_28
      refine K.RW.q rfl (by kernel_rfl) (K.QR.k (v := .bool false) (by kernel_rfl)) ?_
      refine K.RW.q rfl rfl (K.QR.k (v := .bool false) (by kernel_rfl)) ?_
      refine K.RW.q rfl rfl (K.QR.k (v := .bool false) (by kernel_rfl)) ?_
      refine K.RW.nil ?_
      refine K.thn_normal ?_
      refine K.KW.ret ?_
      refine ⟨.inr rfl, (.bool false), K.res1 rfl rfl, ?_⟩
      exact ⟨congrArg Value.bool (by first | exact (decide_eq_true (by unfold fewC; first | (left; omega) | (right; assumption))).symm | exact (decide_eq_false (by unfold fewC; rintro (h | h) <;> first | omega | contradiction)).symm), c_25⟩
    ·  -- False
      rw [hb_28] at hv_23; subst hv_23
      have hp_30 := of_decide_eq_false hb_28
      refine K.RW.q rfl (by kernel_rfl) (K.QR.k (v := .bool true) (by kernel_rfl)) ?_
      refine K.RW.q rfl rfl (K.QR.k (v := .bool true) (by kernel_rfl)) ?_
      refine K.RW.q rfl rfl (K.QR.k (v := .bool true) (by kernel_rfl)) ?_
      refine K.RW.nil ?_
      refine K.thn_normal ?_
      refine K.KW.ret ?_
      refine ⟨.inr rfl, (.bool true), K.res1 rfl rfl, ?_⟩
      exact ⟨congrArg Value.bool (by first | exact (decide_eq_true (by unfold fewC; first | (left; omega) | (right; assumption))).symm | exact (decide_eq_false (by unfold fewC; rintro (h | h) <;> first | omega | contradiction)).symm), c_25⟩

theorem aw_ok : cfgOk ⟨1, 2, 3, 9⟩ := by decide

set_option maxHeartbeats 1000000 in
set_option maxRecDepth 100000 in
theorem awake06_ok (w0 : World) :
    K.KC Try.prog 37 #[] w0 (fun v w' => v = .bool true ∧ K.Chg K.No w0 w') := by
  refine K.KC.mk (n := 35) Try.func37 rfl rfl [] rfl rfl ?_
  refine K.KW.seq ?_
  -- region 0 law.go:12
  refine K.KW.region ?_
  refine K.RW.q rfl rfl (K.QR.k (v := .bool false) (by kernel_rfl)) ?_
  refine K.RW.nil ?_
  refine K.thn_normal ?_
  refine K.KW.seq ?_
  -- region 1 law.go:13
  refine K.KW.region ?_
  refine K.RW.q rfl rfl (K.QR.bd [(0, .int .i64 1), (1, .int .i64 2), (2, .int .i64 3), (3, .int .i64 9)] [.int .i64 1, .int .i64 2, .int .i64 3, .int .i64 9] rfl rfl (by kernel_rfl)) ?_
  refine K.RW.l rfl (K.OW.call rfl [.agg #[.int .i64 1, .int .i64 2, .int .i64 3, .int .i64 9]] rfl rfl (by kernel_rfl) (of_ok (⟨1, 2, 3, 9⟩ : Cfg) _) ?_) 
  rintro v_1 w_2 (⟨b_3, rfl, hc_4, c_5, hb_6, hl_7⟩ | ⟨rfl, hn_9, c_8⟩)
  ·  -- a layout
    have c_10 := c_5
    have z_11 := c_10.size
    refine K.RW.q rfl rfl (K.QR.k (v := .tuple #[.pointer (some ⟨b_3, 0, none⟩), .int .i64 0]) (by kernel_rfl)) ?_
    refine K.RW.q rfl rfl (K.QR.k (v := .pointer (some ⟨b_3, 0, none⟩)) (by kernel_rfl)) ?_
    refine K.RW.q rfl rfl (K.QR.k (v := .int .i64 0) (by kernel_rfl)) ?_
    refine K.RW.q rfl rfl (K.QR.k (v := .pointer (some ⟨b_3, 0, none⟩)) (by kernel_rfl)) ?_
    refine K.RW.q rfl rfl (K.QR.k (v := .int .i64 0) (by kernel_rfl)) ?_
    refine K.RW.nil ?_
    refine K.thn_normal ?_
    refine K.KW.seq ?_
    -- region 2 law.go:14
    refine K.KW.region ?_
    refine K.RW.q rfl rfl (K.QR.k (v := .int .i64 0) (by kernel_rfl)) ?_
    refine K.RW.q rfl rfl (K.QR.k (v := .bool true) (by kernel_rfl)) ?_
    refine K.RW.q rfl rfl (K.QR.k (v := .bool true) (by kernel_rfl)) ?_
    refine K.RW.q rfl (by kernel_rfl) (K.QR.k (v := .pointer (some ⟨b_3, 0, none⟩)) (by kernel_rfl)) ?_
    refine K.RW.l (by kernel_rfl) (K.OW.call rfl [.pointer (some ⟨b_3, 0, none⟩), .int .i64 8] rfl rfl (by kernel_rfl) (lBucket _ (⟨1, 2, 3, 9⟩ : Cfg) 8 _ (by assumption) hl_7) ?_) 
    rintro _ w_13 ⟨rfl, c_12⟩
    have c_14 := c_10.no c_12
    have z_15 := c_14.size
    have f_16 := hl_7.no c_12
    refine K.RW.q rfl (by kernel_rfl) (K.QR.nice (v := .bool (((bucketS (⟨1, 2, 3, 9⟩ : Cfg) (8)) : Int) == (48 : Int))) (by kernel_rfl) (congrArg Value.bool (beq_iff_eq.2 (by decide)))) ?_
    refine K.RW.q rfl rfl (K.QR.k (v := .bool true) (by kernel_rfl)) ?_
    refine K.RW.q rfl rfl (K.QR.k (v := .bool true) (by kernel_rfl)) ?_
    refine K.RW.q rfl (by kernel_rfl) (K.QR.k (v := .pointer (some ⟨b_3, 0, none⟩)) (by kernel_rfl)) ?_
    refine K.RW.l (by kernel_rfl) (K.OW.call rfl [.pointer (some ⟨b_3, 0, none⟩), .int .i64 0] rfl rfl (by kernel_rfl) (lCell _ (⟨1, 2, 3, 9⟩ : Cfg) 0 _ (by assumption) f_16) ?_) 
    rintro _ w_18 ⟨rfl, c_17⟩
    have c_19 := c_14.no c_17
    have z_20 := c_19.size
    have f_21 := f_16.no c_17
    refine K.RW.q rfl (by kernel_rfl) (K.QR.nice (v := .bool (((threadS (⟨1, 2, 3, 9⟩ : Cfg) (0) 0) : Int) == (56 : Int))) (by kernel_rfl) (congrArg Value.bool (beq_iff_eq.2 (by decide)))) ?_
    refine K.RW.q rfl rfl (K.QR.k (v := .bool true) (by kernel_rfl)) ?_
    refine K.RW.q rfl rfl (K.QR.k (v := .bool true) (by kernel_rfl)) ?_
    refine K.RW.q rfl (by kernel_rfl) (K.QR.k (v := .pointer (some ⟨b_3, 0, none⟩)) (by kernel_rfl)) ?_
    refine K.RW.l (by kernel_rfl) (K.OW.call rfl [.pointer (some ⟨b_3, 0, none⟩), .int .i64 0, .int .i64 0] rfl rfl (by kernel_rfl) (lLog _ (⟨1, 2, 3, 9⟩ : Cfg) 0 0 _ (by assumption) f_21) ?_) 
    rintro _ w_23 ⟨rfl, c_22⟩
    have c_24 := c_19.no c_22
    have z_25 := c_24.size
    have f_26 := f_21.no c_22
    refine K.RW.q rfl (by kernel_rfl) (K.QR.nice (v := .bool (((logS (⟨1, 2, 3, 9⟩ : Cfg) (0) (0)) : Int) == (64 : Int))) (by kernel_rfl) (congrArg Value.bool (beq_iff_eq.2 (by decide)))) ?_
    refine K.RW.q rfl rfl (K.QR.k (v := .bool true) (by kernel_rfl)) ?_
    refine K.RW.q rfl rfl (K.QR.k (v := .bool true) (by kernel_rfl)) ?_
    refine K.RW.q rfl (by kernel_rfl) (K.QR.k (v := .pointer (some ⟨b_3, 0, none⟩)) (by kernel_rfl)) ?_
    refine K.RW.l (by kernel_rfl) (K.OW.call rfl [.pointer (some ⟨b_3, 0, none⟩), .int .i64 1] rfl rfl (by kernel_rfl) (lGen _ (⟨1, 2, 3, 9⟩ : Cfg) 1 _ (by assumption) f_26) ?_) 
    rintro _ w_28 ⟨rfl, c_27⟩
    have c_29 := c_24.no c_27
    have z_30 := c_29.size
    have f_31 := f_26.no c_27
    refine K.RW.q rfl (by kernel_rfl) (K.QR.nice (v := .bool (((slotS (⟨1, 2, 3, 9⟩ : Cfg) (1) 0) : Int) == (80 : Int))) (by kernel_rfl) (congrArg Value.bool (beq_iff_eq.2 (by decide)))) ?_
    refine K.RW.q rfl rfl (K.QR.k (v := .bool true) (by kernel_rfl)) ?_
    refine K.RW.q rfl rfl (K.QR.k (v := .bool true) (by kernel_rfl)) ?_
    refine K.RW.q rfl (by kernel_rfl) (K.QR.k (v := .pointer (some ⟨b_3, 0, none⟩)) (by kernel_rfl)) ?_
    refine K.RW.l (by kernel_rfl) (K.OW.call rfl [.pointer (some ⟨b_3, 0, none⟩)] rfl rfl (by kernel_rfl) (lLines _ (⟨1, 2, 3, 9⟩ : Cfg)  _ (by assumption) f_31) ?_) 
    rintro _ w_33 ⟨rfl, c_32⟩
    have c_34 := c_29.no c_32
    have z_35 := c_34.size
    have f_36 := f_31.no c_32
    refine K.RW.q rfl (by kernel_rfl) (K.QR.nice (v := .bool (((lns (⟨1, 2, 3, 9⟩ : Cfg)) : Int) == (11 : Int))) (by kernel_rfl) (congrArg Value.bool (beq_iff_eq.2 (by decide)))) ?_
    refine K.RW.q rfl rfl (K.QR.k (v := .bool true) (by kernel_rfl)) ?_
    refine K.RW.q rfl rfl (K.QR.k (v := .bool true) (by kernel_rfl)) ?_
    refine K.RW.nil ?_
    refine K.thn_normal ?_
    refine K.KW.ret ?_
    refine ⟨.inr rfl, (.bool true), K.res1 rfl rfl, ?_⟩
    exact ⟨rfl, c_34⟩
  ·  -- none
    have c_37 := c_8
    have z_38 := c_37.size
    refine K.RW.q rfl rfl (K.QR.k (v := .tuple #[.pointer none, .int .i64 1]) (by kernel_rfl)) ?_
    refine K.RW.q rfl rfl (K.QR.k (v := .pointer none) (by kernel_rfl)) ?_
    refine K.RW.q rfl rfl (K.QR.k (v := .int .i64 1) (by kernel_rfl)) ?_
    refine K.RW.q rfl rfl (K.QR.k (v := .pointer none) (by kernel_rfl)) ?_
    refine K.RW.q rfl rfl (K.QR.k (v := .int .i64 1) (by kernel_rfl)) ?_
    refine K.RW.nil ?_
    refine K.thn_normal ?_
    refine K.KW.seq ?_
    -- region 2 law.go:14
    exfalso
    exact absurd aw_ok (by assumption)

set_option maxHeartbeats 1000000 in
set_option maxRecDepth 100000 in
theorem laySlots_ok (c : Cfg) (at_ : Int) (w0 : World) (hat : -9223372036854775808 ≤ at_ ∧ at_ ≤ 9223372036854775807) :
    K.KC Try.prog 8 #[.agg #[.int .i64 c.th, .int .i64 c.sl, .int .i64 c.lo, .int .i64 c.bu], .int .i64 at_] w0 (fun v w' => v = .bool true ∧ K.Chg K.No w0 w') := by
  refine K.KC.mk (n := 60) Try.func8 rfl rfl [.agg #[.int .i64 c.th, .int .i64 c.sl, .int .i64 c.lo, .int .i64 c.bu], .int .i64 at_] rfl rfl ?_
  refine K.KW.seq ?_
  -- region 0 law.go:102
  refine K.KW.region ?_
  refine K.RW.l rfl (K.OW.new (t := 63) rfl (fun r => .pointer (some ⟨r, 0, none⟩)) [.int .i64 c.th, .int .i64 c.sl, .int .i64 c.lo, .int .i64 c.bu] (by kernel_rfl) ?_) 
  intro w_1 r_2 hr_3 e_4 hs_5 b_6
  have c_7 := e_4
  have z_8 := c_7.size
  refine K.RW.q rfl rfl (K.QR.k (v := .bool false) (by kernel_rfl)) ?_
  refine K.RW.nil ?_
  refine K.thn_normal ?_
  refine K.KW.seq ?_
  -- region 1 law.go:103
  refine K.KW.region ?_
  refine K.RW.q rfl rfl (K.QR.ldN [.int .i64 c.th, .int .i64 c.sl, .int .i64 c.lo, .int .i64 c.bu] rfl rfl (by kernel_rfl) (by kernel_rfl) (K.cells (K.cl (b_6.cell rfl) (K.cl (b_6.cell rfl) (K.cl (b_6.cell rfl) (K.cl (b_6.cell rfl) K.cl0)))))) ?_
  refine K.RW.l rfl (K.OW.call rfl [.agg #[.int .i64 c.th, .int .i64 c.sl, .int .i64 c.lo, .int .i64 c.bu]] rfl rfl (by kernel_rfl) (of_ok c _) ?_) 
  rintro v_9 w_10 (⟨b_11, rfl, hc_12, c_13, hb_14, hl_15⟩ | ⟨rfl, hn_17, c_16⟩)
  ·  -- a layout
    have c_18 := c_7.no c_13
    have z_19 := c_18.size
    have f_20 := b_6.no c_13
    refine K.RW.q rfl rfl (K.QR.k (v := .tuple #[.pointer (some ⟨b_11, 0, none⟩), .int .i64 0]) (by kernel_rfl)) ?_
    refine K.RW.q rfl rfl (K.QR.k (v := .pointer (some ⟨b_11, 0, none⟩)) (by kernel_rfl)) ?_
    refine K.RW.q rfl rfl (K.QR.k (v := .int .i64 0) (by kernel_rfl)) ?_
    refine K.RW.q rfl rfl (K.QR.k (v := .pointer (some ⟨b_11, 0, none⟩)) (by kernel_rfl)) ?_
    refine K.RW.q rfl rfl (K.QR.k (v := .int .i64 0) (by kernel_rfl)) ?_
    refine K.RW.nil ?_
    refine K.thn_normal ?_
    refine K.KW.seq ?_
    refine K.KW.seq ?_
    -- region 2 law.go:104
    refine K.KW.region ?_
    refine K.RW.q rfl rfl (K.QR.ldN [.int .i64 c.th, .int .i64 c.sl, .int .i64 c.lo, .int .i64 c.bu] rfl rfl (by kernel_rfl) (by kernel_rfl) (K.cells (K.cl (f_20.cell rfl) (K.cl (f_20.cell rfl) (K.cl (f_20.cell rfl) (K.cl (f_20.cell rfl) K.cl0)))))) ?_
    refine K.RW.l rfl (K.OW.call rfl [.agg #[.int .i64 c.th, .int .i64 c.sl, .int .i64 c.lo, .int .i64 c.bu]] rfl rfl (by kernel_rfl) (few_ok c _) ?_) 
    rintro v_24 w_22 ⟨hv_23, c_21⟩
    have c_25 := c_18.no c_21
    have z_26 := c_25.size
    have f_27 := f_20.no c_21
    have f_28 := hl_15.no c_21
    rcases Bool.eq_false_or_eq_true (decide (fewC c)) with hb_29 | hb_29
    ·  -- True
      rw [hb_29] at hv_23; subst hv_23
      have hp_30 := of_decide_eq_true hb_29
      refine K.RW.q rfl rfl (K.QR.k (v := .bool false) (by kernel_rfl)) ?_
      refine K.RW.q rfl rfl (K.QR.k (v := .bool false) (by kernel_rfl)) ?_
      refine K.RW.q rfl (by kernel_rfl) (K.QR.k (v := .int .i64 0) (by kernel_rfl)) ?_
      refine K.RW.q rfl (by kernel_rfl) (K.QR.k (v := .bool false) (by kernel_rfl)) ?_
      refine K.RW.q rfl rfl (K.QR.k (v := .bool false) (by kernel_rfl)) ?_
      refine K.RW.nil ?_
      refine K.thn_normal ?_
      refine K.KW.ifF rfl ?_
      refine K.KW.skip ?_
      refine K.thn_normal ?_
      refine K.KW.seq ?_
      -- region 4 law.go:107
      refine K.KW.region ?_
      refine K.RW.q rfl rfl (K.QR.ldN [.int .i64 c.th, .int .i64 c.sl, .int .i64 c.lo, .int .i64 c.bu] rfl rfl (by kernel_rfl) (by kernel_rfl) (K.cells (K.cl (f_27.cell rfl) (K.cl (f_27.cell rfl) (K.cl (f_27.cell rfl) (K.cl (f_27.cell rfl) K.cl0)))))) ?_
      refine K.RW.l rfl (K.OW.call rfl [.agg #[.int .i64 c.th, .int .i64 c.sl, .int .i64 c.lo, .int .i64 c.bu]] rfl rfl (by kernel_rfl) (lasting_ok c _ (by assumption)) ?_) 
      rintro _ w_37 ⟨r_31, m_32, cc_33, rfl, c_34, o_35, rfl⟩
      have c_38 := c_25.no c_34
      have z_39 := c_38.size
      have f_40 := f_27.no c_34
      have f_41 := f_28.no c_34
      have o_42 := K.Own.mono (base' := w0.heap.size) o_35 (by omega)
      refine K.RW.q rfl rfl (K.QR.k (v := .slice r_31 ((lasting c).length) cc_33) (by kernel_rfl)) ?_
      refine K.RW.nil ?_
      refine K.thn_normal ?_
      refine K.KW.seq ?_
      -- region 5 law.go:108
      refine K.KW.region ?_
      refine K.RW.q rfl rfl (K.QR.k (v := .int .i64 (-1)) (by kernel_rfl)) ?_
      refine K.RW.nil ?_
      refine K.thn_normal ?_
      refine K.KW.seq ?_
      refine K.KW.seq ?_
      -- region 6 law.go:109
      have hbd := lay_bd (by assumption : cfgOk c)
      have hll := lasting_len (by assumption : cfgOk c)
      have hpl := passing_len (by assumption : cfgOk c)
      have hcc := (by assumption : cfgOk c)
      unfold cfgOk at hcc
      refine K.KW.region ?_
      refine K.RW.q rfl rfl (K.QR.k (v := .int .i64 at_) (by kernel_rfl)) ?_
      by_cases h_43 : (at_ : Int) ≥ (0 : Int)
      ·  -- yes
        refine K.RW.q rfl rfl (K.QR.nice (v := .bool (decide ((at_ : Int) ≥ (0 : Int)))) (by kernel_rfl) (congrArg Value.bool (decide_eq_true h_43))) ?_
        refine K.RW.q rfl rfl (K.QR.k (v := .bool true) (by kernel_rfl)) ?_
        refine K.RW.q rfl (by kernel_rfl) (K.QR.k (v := .int .i64 at_) (by kernel_rfl)) ?_
        refine K.RW.q rfl (by kernel_rfl) (K.QR.k (v := .slice r_31 ((lasting c).length) cc_33) (by kernel_rfl)) ?_
        refine K.RW.q rfl (by kernel_rfl) (K.QR.len (P := Try.prog) rfl rfl Try.underlying68) ?_
        by_cases h_44 : (at_ : Int) < ((((lasting c).length : Nat) : Int) : Int)
        ·  -- yes
          refine K.RW.q rfl (by kernel_rfl) (K.QR.nice (v := .bool (decide ((at_ : Int) < ((((lasting c).length : Nat) : Int) : Int)))) (by kernel_rfl) (congrArg Value.bool (decide_eq_true h_44))) ?_
          refine K.RW.q rfl rfl (K.QR.k (v := .bool true) (by kernel_rfl)) ?_
          refine K.RW.q rfl rfl (K.QR.k (v := .bool true) (by kernel_rfl)) ?_
          refine K.RW.q rfl (by kernel_rfl) (K.QR.k (v := .int .i64 at_) (by kernel_rfl)) ?_
          refine K.RW.q rfl (by kernel_rfl) (K.QR.quoi64 (at_ : Int) 8 ((at_ : Int) / 8) (by kernel_rfl) (by omega) (by omega)) ?_
          refine K.RW.q rfl (by kernel_rfl) (K.QR.k (v := .slice r_31 ((lasting c).length) cc_33) (by kernel_rfl)) ?_
          refine K.RW.q rfl (by kernel_rfl) (K.QR.len (P := Try.prog) rfl rfl Try.underlying68) ?_
          refine K.RW.q rfl (by kernel_rfl) (K.QR.quoi64 ((((lasting c).length : Nat) : Int) : Int) 8 ((((lasting c).length) / 8 : Nat) : Int) (by kernel_rfl) (by omega) (by omega)) ?_
          refine K.RW.q rfl (by kernel_rfl) (K.QR.k (v := .pointer (some ⟨r_2, 1, none⟩)) (by kernel_rfl)) ?_
          refine K.RW.q rfl (by kernel_rfl) (K.QR.ld1 (v := .int .i64 c.sl) rfl rfl (by kernel_rfl) (f_40.cell rfl)) ?_
          refine K.RW.q rfl (by kernel_rfl) (K.QR.n64 ((((((lasting c).length) / 8 : Nat) : Int) : Int) - (c.sl : Int)) ((((((lasting c).length) / 8 : Nat) : Int) : Int) - (c.sl : Int)) (by kernel_rfl) (by omega)) ?_
          by_cases h_45 : ((at_ : Int) / 8 : Int) ≥ ((((((lasting c).length) / 8 : Nat) : Int) : Int) - (c.sl : Int) : Int)
          ·  -- yes
            refine K.RW.q rfl (by kernel_rfl) (K.QR.nice (v := .bool (decide (((at_ : Int) / 8 : Int) ≥ ((((((lasting c).length) / 8 : Nat) : Int) : Int) - (c.sl : Int) : Int)))) (by kernel_rfl) (congrArg Value.bool (decide_eq_true h_45))) ?_
            refine K.RW.q rfl rfl (K.QR.k (v := .bool true) (by kernel_rfl)) ?_
            refine K.RW.nil ?_
            refine K.thn_normal ?_
            refine K.KW.ifT rfl ?_
            -- region 7 law.go:110
            refine K.KW.region ?_
            refine K.RW.q rfl rfl (K.QR.k (v := .int .i64 at_) (by kernel_rfl)) ?_
            refine K.RW.q rfl rfl (K.QR.quoi64 (at_ : Int) 8 ((at_ : Int) / 8) (by kernel_rfl) (by omega) (by omega)) ?_
            refine K.RW.q rfl rfl (K.QR.k (v := .slice r_31 ((lasting c).length) cc_33) (by kernel_rfl)) ?_
            refine K.RW.q rfl rfl (K.QR.len (P := Try.prog) rfl rfl Try.underlying68) ?_
            refine K.RW.q rfl rfl (K.QR.quoi64 ((((lasting c).length : Nat) : Int) : Int) 8 ((((lasting c).length) / 8 : Nat) : Int) (by kernel_rfl) (by omega) (by omega)) ?_
            refine K.RW.q rfl rfl (K.QR.k (v := .pointer (some ⟨r_2, 1, none⟩)) (by kernel_rfl)) ?_
            refine K.RW.q rfl rfl (K.QR.ld1 (v := .int .i64 c.sl) rfl rfl (by kernel_rfl) (f_40.cell rfl)) ?_
            refine K.RW.q rfl rfl (K.QR.n64 ((((((lasting c).length) / 8 : Nat) : Int) : Int) - (c.sl : Int)) ((((((lasting c).length) / 8 : Nat) : Int) : Int) - (c.sl : Int)) (by kernel_rfl) (by omega)) ?_
            refine K.RW.q rfl rfl (K.QR.n64 (((at_ : Int) / 8 : Int) - ((((((lasting c).length) / 8 : Nat) : Int) : Int) - (c.sl : Int) : Int)) (((at_ : Int) / 8 : Int) - ((((((lasting c).length) / 8 : Nat) : Int) : Int) - (c.sl : Int) : Int)) (by kernel_rfl) (by omega)) ?_
            refine K.RW.q rfl rfl (K.QR.k (v := .int .i64 (((at_ : Int) / 8 : Int) - ((((((lasting c).length) / 8 : Nat) : Int) : Int) - (c.sl : Int) : Int))) (by kernel_rfl)) ?_
            refine K.RW.nil ?_
            refine K.thn_normal ?_
            refine K.KW.seq ?_
            -- region 8 law.go:112
            refine K.KW.region ?_
            refine K.RW.l rfl (K.OW.call rfl [] rfl rfl (by kernel_rfl) (awake06_ok _) ?_) 
            rintro _ w_47 ⟨rfl, c_46⟩
            have c_48 := c_38.no c_46
            have z_49 := c_48.size
            have f_50 := f_40.no c_46
            have f_51 := f_41.no c_46
            have f_52 := o_42.no c_46
            refine K.RW.q rfl rfl (K.QR.k (v := .bool true) (by kernel_rfl)) ?_
            refine K.RW.q rfl (by kernel_rfl) (K.QR.k (v := .pointer (some ⟨b_11, 0, none⟩)) (by kernel_rfl)) ?_
            refine K.RW.q rfl (by kernel_rfl) (K.QR.k (v := .int .i64 at_) (by kernel_rfl)) ?_
            refine K.RW.l (by kernel_rfl) (K.OW.call rfl [.pointer (some ⟨b_11, 0, none⟩), .int .i64 at_] rfl rfl (by kernel_rfl) (lSlot _ c at_ _ (by assumption) (by first | omega | (have := lay_bd (by assumption); unfold cfgOk at *; omega)) f_51) ?_) 
            rintro _ w_54 ⟨rfl, c_53⟩
            have c_55 := c_48.no c_53
            have z_56 := c_55.size
            have f_57 := f_50.no c_53
            have f_58 := f_51.no c_53
            have f_59 := f_52.no c_53
            refine K.RW.q rfl (by kernel_rfl) (K.QR.k (v := .int .i64 (((at_ : Int) / 8 : Int) - ((((((lasting c).length) / 8 : Nat) : Int) : Int) - (c.sl : Int) : Int))) (by kernel_rfl)) ?_
            refine K.RW.q rfl (by kernel_rfl) (K.QR.nice (v := .bool (((slotOf c (at_)) : Int) == (((at_ : Int) / 8 : Int) - ((((((lasting c).length) / 8 : Nat) : Int) : Int) - (c.sl : Int) : Int) : Int))) (by kernel_rfl) (congrArg Value.bool (beq_iff_eq.2 (by unfold slotOf; first | (rw [if_pos (by omega)]; omega) | (rw [if_neg (by omega)]))))) ?_
            refine K.RW.q rfl rfl (K.QR.k (v := .bool true) (by kernel_rfl)) ?_
            refine K.RW.q rfl rfl (K.QR.k (v := .bool true) (by kernel_rfl)) ?_
            refine K.RW.nil ?_
            refine K.thn_normal ?_
            refine K.KW.ret ?_
            refine ⟨.inr rfl, (.bool true), K.res1 rfl rfl, ?_⟩
            exact ⟨rfl, c_55⟩
          ·  -- no
            refine K.RW.q rfl (by kernel_rfl) (K.QR.nice (v := .bool (decide (((at_ : Int) / 8 : Int) ≥ ((((((lasting c).length) / 8 : Nat) : Int) : Int) - (c.sl : Int) : Int)))) (by kernel_rfl) (congrArg Value.bool (decide_eq_false h_45))) ?_
            refine K.RW.q rfl rfl (K.QR.k (v := .bool false) (by kernel_rfl)) ?_
            refine K.RW.nil ?_
            refine K.thn_normal ?_
            refine K.KW.ifF rfl ?_
            refine K.KW.skip ?_
            refine K.thn_normal ?_
            refine K.KW.seq ?_
            -- region 8 law.go:112
            refine K.KW.region ?_
            refine K.RW.l rfl (K.OW.call rfl [] rfl rfl (by kernel_rfl) (awake06_ok _) ?_) 
            rintro _ w_61 ⟨rfl, c_60⟩
            have c_62 := c_38.no c_60
            have z_63 := c_62.size
            have f_64 := f_40.no c_60
            have f_65 := f_41.no c_60
            have f_66 := o_42.no c_60
            refine K.RW.q rfl rfl (K.QR.k (v := .bool true) (by kernel_rfl)) ?_
            refine K.RW.q rfl (by kernel_rfl) (K.QR.k (v := .pointer (some ⟨b_11, 0, none⟩)) (by kernel_rfl)) ?_
            refine K.RW.q rfl (by kernel_rfl) (K.QR.k (v := .int .i64 at_) (by kernel_rfl)) ?_
            refine K.RW.l (by kernel_rfl) (K.OW.call rfl [.pointer (some ⟨b_11, 0, none⟩), .int .i64 at_] rfl rfl (by kernel_rfl) (lSlot _ c at_ _ (by assumption) (by first | omega | (have := lay_bd (by assumption); unfold cfgOk at *; omega)) f_65) ?_) 
            rintro _ w_68 ⟨rfl, c_67⟩
            have c_69 := c_62.no c_67
            have z_70 := c_69.size
            have f_71 := f_64.no c_67
            have f_72 := f_65.no c_67
            have f_73 := f_66.no c_67
            refine K.RW.q rfl (by kernel_rfl) (K.QR.k (v := .int .i64 (-1)) (by kernel_rfl)) ?_
            refine K.RW.q rfl (by kernel_rfl) (K.QR.nice (v := .bool (((slotOf c (at_)) : Int) == ((-1) : Int))) (by kernel_rfl) (congrArg Value.bool (beq_iff_eq.2 (by unfold slotOf; first | (rw [if_pos (by omega)]; omega) | (rw [if_neg (by omega)]))))) ?_
            refine K.RW.q rfl rfl (K.QR.k (v := .bool true) (by kernel_rfl)) ?_
            refine K.RW.q rfl rfl (K.QR.k (v := .bool true) (by kernel_rfl)) ?_
            refine K.RW.nil ?_
            refine K.thn_normal ?_
            refine K.KW.ret ?_
            refine ⟨.inr rfl, (.bool true), K.res1 rfl rfl, ?_⟩
            exact ⟨rfl, c_69⟩
        ·  -- no
          refine K.RW.q rfl (by kernel_rfl) (K.QR.nice (v := .bool (decide ((at_ : Int) < ((((lasting c).length : Nat) : Int) : Int)))) (by kernel_rfl) (congrArg Value.bool (decide_eq_false h_44))) ?_
          refine K.RW.q rfl rfl (K.QR.k (v := .bool false) (by kernel_rfl)) ?_
          refine K.RW.q rfl rfl (K.QR.k (v := .bool false) (by kernel_rfl)) ?_
          refine K.RW.skip rfl (by kernel_rfl) ?_
          refine K.RW.skip rfl (by kernel_rfl) ?_
          refine K.RW.skip rfl (by kernel_rfl) ?_
          refine K.RW.skip rfl (by kernel_rfl) ?_
          refine K.RW.skip rfl (by kernel_rfl) ?_
          refine K.RW.skip rfl (by kernel_rfl) ?_
          refine K.RW.skip rfl (by kernel_rfl) ?_
          refine K.RW.skip rfl (by kernel_rfl) ?_
          refine K.RW.skip rfl (by kernel_rfl) ?_
          refine K.RW.q rfl rfl (K.QR.k (v := .bool false) (by kernel_rfl)) ?_
          refine K.RW.nil ?_
          refine K.thn_normal ?_
          refine K.KW.ifF rfl ?_
          refine K.KW.skip ?_
          refine K.thn_normal ?_
          refine K.KW.seq ?_
          -- region 8 law.go:112
          refine K.KW.region ?_
          refine K.RW.l rfl (K.OW.call rfl [] rfl rfl (by kernel_rfl) (awake06_ok _) ?_) 
          rintro _ w_75 ⟨rfl, c_74⟩
          have c_76 := c_38.no c_74
          have z_77 := c_76.size
          have f_78 := f_40.no c_74
          have f_79 := f_41.no c_74
          have f_80 := o_42.no c_74
          refine K.RW.q rfl rfl (K.QR.k (v := .bool true) (by kernel_rfl)) ?_
          refine K.RW.q rfl (by kernel_rfl) (K.QR.k (v := .pointer (some ⟨b_11, 0, none⟩)) (by kernel_rfl)) ?_
          refine K.RW.q rfl (by kernel_rfl) (K.QR.k (v := .int .i64 at_) (by kernel_rfl)) ?_
          refine K.RW.l (by kernel_rfl) (K.OW.call rfl [.pointer (some ⟨b_11, 0, none⟩), .int .i64 at_] rfl rfl (by kernel_rfl) (lSlot _ c at_ _ (by assumption) (by first | omega | (have := lay_bd (by assumption); unfold cfgOk at *; omega)) f_79) ?_) 
          rintro _ w_82 ⟨rfl, c_81⟩
          have c_83 := c_76.no c_81
          have z_84 := c_83.size
          have f_85 := f_78.no c_81
          have f_86 := f_79.no c_81
          have f_87 := f_80.no c_81
          refine K.RW.q rfl (by kernel_rfl) (K.QR.k (v := .int .i64 (-1)) (by kernel_rfl)) ?_
          refine K.RW.q rfl (by kernel_rfl) (K.QR.nice (v := .bool (((slotOf c (at_)) : Int) == ((-1) : Int))) (by kernel_rfl) (congrArg Value.bool (beq_iff_eq.2 (by unfold slotOf; first | (rw [if_pos (by omega)]; omega) | (rw [if_neg (by omega)]))))) ?_
          refine K.RW.q rfl rfl (K.QR.k (v := .bool true) (by kernel_rfl)) ?_
          refine K.RW.q rfl rfl (K.QR.k (v := .bool true) (by kernel_rfl)) ?_
          refine K.RW.nil ?_
          refine K.thn_normal ?_
          refine K.KW.ret ?_
          refine ⟨.inr rfl, (.bool true), K.res1 rfl rfl, ?_⟩
          exact ⟨rfl, c_83⟩
      ·  -- no
        refine K.RW.q rfl rfl (K.QR.nice (v := .bool (decide ((at_ : Int) ≥ (0 : Int)))) (by kernel_rfl) (congrArg Value.bool (decide_eq_false h_43))) ?_
        refine K.RW.q rfl rfl (K.QR.k (v := .bool false) (by kernel_rfl)) ?_
        refine K.RW.skip rfl (by kernel_rfl) ?_
        refine K.RW.skip rfl (by kernel_rfl) ?_
        refine K.RW.skip rfl (by kernel_rfl) ?_
        refine K.RW.skip rfl (by kernel_rfl) ?_
        refine K.RW.q rfl rfl (K.QR.k (v := .bool false) (by kernel_rfl)) ?_
        refine K.RW.q rfl rfl (K.QR.k (v := .bool false) (by kernel_rfl)) ?_
        refine K.RW.skip rfl (by kernel_rfl) ?_
        refine K.RW.skip rfl (by kernel_rfl) ?_
        refine K.RW.skip rfl (by kernel_rfl) ?_
        refine K.RW.skip rfl (by kernel_rfl) ?_
        refine K.RW.skip rfl (by kernel_rfl) ?_
        refine K.RW.skip rfl (by kernel_rfl) ?_
        refine K.RW.skip rfl (by kernel_rfl) ?_
        refine K.RW.skip rfl (by kernel_rfl) ?_
        refine K.RW.skip rfl (by kernel_rfl) ?_
        refine K.RW.q rfl rfl (K.QR.k (v := .bool false) (by kernel_rfl)) ?_
        refine K.RW.nil ?_
        refine K.thn_normal ?_
        refine K.KW.ifF rfl ?_
        refine K.KW.skip ?_
        refine K.thn_normal ?_
        refine K.KW.seq ?_
        -- region 8 law.go:112
        refine K.KW.region ?_
        refine K.RW.l rfl (K.OW.call rfl [] rfl rfl (by kernel_rfl) (awake06_ok _) ?_) 
        rintro _ w_89 ⟨rfl, c_88⟩
        have c_90 := c_38.no c_88
        have z_91 := c_90.size
        have f_92 := f_40.no c_88
        have f_93 := f_41.no c_88
        have f_94 := o_42.no c_88
        refine K.RW.q rfl rfl (K.QR.k (v := .bool true) (by kernel_rfl)) ?_
        refine K.RW.q rfl (by kernel_rfl) (K.QR.k (v := .pointer (some ⟨b_11, 0, none⟩)) (by kernel_rfl)) ?_
        refine K.RW.q rfl (by kernel_rfl) (K.QR.k (v := .int .i64 at_) (by kernel_rfl)) ?_
        refine K.RW.l (by kernel_rfl) (K.OW.call rfl [.pointer (some ⟨b_11, 0, none⟩), .int .i64 at_] rfl rfl (by kernel_rfl) (lSlot _ c at_ _ (by assumption) (by first | omega | (have := lay_bd (by assumption); unfold cfgOk at *; omega)) f_93) ?_) 
        rintro _ w_96 ⟨rfl, c_95⟩
        have c_97 := c_90.no c_95
        have z_98 := c_97.size
        have f_99 := f_92.no c_95
        have f_100 := f_93.no c_95
        have f_101 := f_94.no c_95
        refine K.RW.q rfl (by kernel_rfl) (K.QR.k (v := .int .i64 (-1)) (by kernel_rfl)) ?_
        refine K.RW.q rfl (by kernel_rfl) (K.QR.nice (v := .bool (((slotOf c (at_)) : Int) == ((-1) : Int))) (by kernel_rfl) (congrArg Value.bool (beq_iff_eq.2 (by unfold slotOf; first | (rw [if_pos (by omega)]; omega) | (rw [if_neg (by omega)]))))) ?_
        refine K.RW.q rfl rfl (K.QR.k (v := .bool true) (by kernel_rfl)) ?_
        refine K.RW.q rfl rfl (K.QR.k (v := .bool true) (by kernel_rfl)) ?_
        refine K.RW.nil ?_
        refine K.thn_normal ?_
        refine K.KW.ret ?_
        refine ⟨.inr rfl, (.bool true), K.res1 rfl rfl, ?_⟩
        exact ⟨rfl, c_97⟩
    ·  -- False
      rw [hb_29] at hv_23; subst hv_23
      have hp_102 := of_decide_eq_false hb_29
      refine K.RW.q rfl rfl (K.QR.k (v := .bool true) (by kernel_rfl)) ?_
      refine K.RW.q rfl rfl (K.QR.k (v := .bool true) (by kernel_rfl)) ?_
      refine K.RW.skip rfl (by kernel_rfl) ?_
      refine K.RW.skip rfl (by kernel_rfl) ?_
      refine K.RW.q rfl rfl (K.QR.k (v := .bool true) (by kernel_rfl)) ?_
      refine K.RW.nil ?_
      refine K.thn_normal ?_
      refine K.KW.ifT rfl ?_
      refine K.KW.seq ?_
      -- region 3 law.go:105
      refine K.KW.region ?_
      refine K.RW.l rfl (K.OW.call rfl [] rfl rfl (by kernel_rfl) (awake06_ok _) ?_) 
      rintro _ w_104 ⟨rfl, c_103⟩
      have c_105 := c_25.no c_103
      have z_106 := c_105.size
      have f_107 := f_27.no c_103
      have f_108 := f_28.no c_103
      refine K.RW.q rfl rfl (K.QR.k (v := .bool true) (by kernel_rfl)) ?_
      refine K.RW.nil ?_
      refine K.thn_normal ?_
      refine K.KW.ret ?_
      refine K.thn_ret ?_
      refine ⟨.inr rfl, (.bool true), K.res1 rfl rfl, ?_⟩
      exact ⟨rfl, c_105⟩
  ·  -- none
    have c_109 := c_7.no c_16
    have z_110 := c_109.size
    have f_111 := b_6.no c_16
    refine K.RW.q rfl rfl (K.QR.k (v := .tuple #[.pointer none, .int .i64 1]) (by kernel_rfl)) ?_
    refine K.RW.q rfl rfl (K.QR.k (v := .pointer none) (by kernel_rfl)) ?_
    refine K.RW.q rfl rfl (K.QR.k (v := .int .i64 1) (by kernel_rfl)) ?_
    refine K.RW.q rfl rfl (K.QR.k (v := .pointer none) (by kernel_rfl)) ?_
    refine K.RW.q rfl rfl (K.QR.k (v := .int .i64 1) (by kernel_rfl)) ?_
    refine K.RW.nil ?_
    refine K.thn_normal ?_
    refine K.KW.seq ?_
    refine K.KW.seq ?_
    -- region 2 law.go:104
    refine K.KW.region ?_
    refine K.RW.q rfl rfl (K.QR.ldN [.int .i64 c.th, .int .i64 c.sl, .int .i64 c.lo, .int .i64 c.bu] rfl rfl (by kernel_rfl) (by kernel_rfl) (K.cells (K.cl (f_111.cell rfl) (K.cl (f_111.cell rfl) (K.cl (f_111.cell rfl) (K.cl (f_111.cell rfl) K.cl0)))))) ?_
    refine K.RW.l rfl (K.OW.call rfl [.agg #[.int .i64 c.th, .int .i64 c.sl, .int .i64 c.lo, .int .i64 c.bu]] rfl rfl (by kernel_rfl) (few_ok c _) ?_) 
    rintro v_115 w_113 ⟨hv_114, c_112⟩
    have c_116 := c_109.no c_112
    have z_117 := c_116.size
    have f_118 := f_111.no c_112
    rcases Bool.eq_false_or_eq_true (decide (fewC c)) with hb_119 | hb_119
    ·  -- True
      rw [hb_119] at hv_114; subst hv_114
      have hp_120 := of_decide_eq_true hb_119
      refine K.RW.q rfl rfl (K.QR.k (v := .bool false) (by kernel_rfl)) ?_
      refine K.RW.q rfl rfl (K.QR.k (v := .bool false) (by kernel_rfl)) ?_
      refine K.RW.q rfl (by kernel_rfl) (K.QR.k (v := .int .i64 1) (by kernel_rfl)) ?_
      refine K.RW.q rfl (by kernel_rfl) (K.QR.k (v := .bool true) (by kernel_rfl)) ?_
      refine K.RW.q rfl rfl (K.QR.k (v := .bool true) (by kernel_rfl)) ?_
      refine K.RW.nil ?_
      refine K.thn_normal ?_
      refine K.KW.ifT rfl ?_
      refine K.KW.seq ?_
      -- region 3 law.go:105
      refine K.KW.region ?_
      refine K.RW.l rfl (K.OW.call rfl [] rfl rfl (by kernel_rfl) (awake06_ok _) ?_) 
      rintro _ w_122 ⟨rfl, c_121⟩
      have c_123 := c_116.no c_121
      have z_124 := c_123.size
      have f_125 := f_118.no c_121
      refine K.RW.q rfl rfl (K.QR.k (v := .bool true) (by kernel_rfl)) ?_
      refine K.RW.nil ?_
      refine K.thn_normal ?_
      refine K.KW.ret ?_
      refine K.thn_ret ?_
      refine ⟨.inr rfl, (.bool true), K.res1 rfl rfl, ?_⟩
      exact ⟨rfl, c_123⟩
    ·  -- False
      rw [hb_119] at hv_114; subst hv_114
      have hp_126 := of_decide_eq_false hb_119
      refine K.RW.q rfl rfl (K.QR.k (v := .bool true) (by kernel_rfl)) ?_
      refine K.RW.q rfl rfl (K.QR.k (v := .bool true) (by kernel_rfl)) ?_
      refine K.RW.skip rfl (by kernel_rfl) ?_
      refine K.RW.skip rfl (by kernel_rfl) ?_
      refine K.RW.q rfl rfl (K.QR.k (v := .bool true) (by kernel_rfl)) ?_
      refine K.RW.nil ?_
      refine K.thn_normal ?_
      refine K.KW.ifT rfl ?_
      refine K.KW.seq ?_
      -- region 3 law.go:105
      refine K.KW.region ?_
      refine K.RW.l rfl (K.OW.call rfl [] rfl rfl (by kernel_rfl) (awake06_ok _) ?_) 
      rintro _ w_128 ⟨rfl, c_127⟩
      have c_129 := c_116.no c_127
      have z_130 := c_129.size
      have f_131 := f_118.no c_127
      refine K.RW.q rfl rfl (K.QR.k (v := .bool true) (by kernel_rfl)) ?_
      refine K.RW.nil ?_
      refine K.thn_normal ?_
      refine K.KW.ret ?_
      refine K.thn_ret ?_
      refine ⟨.inr rfl, (.bool true), K.res1 rfl rfl, ?_⟩
      exact ⟨rfl, c_129⟩

set_option maxHeartbeats 1000000 in
set_option maxRecDepth 100000 in
theorem layEmpty_ok (k a b : Int) (w0 : World) (hk : 0 ≤ k ∧ k ≤ 255) :
    K.KC Try.prog 13 #[.int .u8 k, .int .i64 a, .int .i64 b] w0 (fun v w' => v = .bool true ∧ K.Chg K.No w0 w') := by
  refine K.KC.mk (n := 43) Try.func13 rfl rfl [.int .u8 k, .int .i64 a, .int .i64 b] rfl rfl ?_
  refine K.KW.seq ?_
  -- region 0 law.go:116
  refine K.KW.region ?_
  refine K.RW.q rfl rfl (K.QR.k (v := .bool false) (by kernel_rfl)) ?_
  refine K.RW.nil ?_
  refine K.thn_normal ?_
  refine K.KW.seq ?_
  -- region 1 law.go:117
  refine K.KW.region ?_
  refine K.RW.q rfl rfl (K.QR.k (v := .pointer none) (by kernel_rfl)) ?_
  refine K.RW.nil ?_
  refine K.thn_normal ?_
  refine K.KW.seq ?_
  -- region 2 law.go:118
  refine K.KW.region ?_
  refine K.RW.l rfl (K.OW.call rfl [] rfl rfl (by kernel_rfl) (awake06_ok _) ?_) 
  rintro _ w_2 ⟨rfl, c_1⟩
  have c_3 := c_1
  have z_4 := c_3.size
  refine K.RW.q rfl rfl (K.QR.k (v := .bool true) (by kernel_rfl)) ?_
  refine K.RW.q rfl (by kernel_rfl) (K.QR.k (v := .pointer none) (by kernel_rfl)) ?_
  refine K.RW.q rfl (by kernel_rfl) (K.QR.k (v := .int .u8 k) (by kernel_rfl)) ?_
  refine K.RW.q rfl (by kernel_rfl) (K.QR.remany (k := .u8) (k : Int) 16 ((k : Int) % 16) (by kernel_rfl) (by omega) (by omega)) ?_
  refine K.RW.q rfl (by kernel_rfl) (K.QR.nice (v := .int .i64 (IntKind.i64.wrap ((k : Int) % 16))) (by kernel_rfl) (congrArg (Value.int .i64) (IntWalk.i64_in _ (by omega)))) ?_
  refine K.RW.q rfl (by kernel_rfl) (K.QR.n64 ((2 : Int) + ((k : Int) % 16 : Int)) ((2 : Int) + ((k : Int) % 16 : Int)) (by kernel_rfl) (by omega)) ?_
  refine K.RW.q rfl (by kernel_rfl) (K.QR.k (v := .int .i64 a) (by kernel_rfl)) ?_
  refine K.RW.q rfl (by kernel_rfl) (K.QR.k (v := .int .i64 b) (by kernel_rfl)) ?_
  refine K.RW.q rfl (by kernel_rfl) (K.QR.bd [(0, .int .i64 ((2 : Int) + ((k : Int) % 16 : Int))), (1, .int .i64 a), (2, .int .i64 b)] [.int .i64 ((2 : Int) + ((k : Int) % 16 : Int)), .int .i64 a, .int .i64 b] rfl rfl (by kernel_rfl)) ?_
  refine K.RW.l (by kernel_rfl) (K.OW.call rfl [.pointer none, .agg #[.int .i64 ((2 : Int) + ((k : Int) % 16 : Int)), .int .i64 a, .int .i64 b]] rfl rfl (by kernel_rfl) (told0_ok (⟨(2 : Int) + ((k : Int) % 16 : Int), a, b⟩ : Nm) _) ?_) 
  rintro _ w_6 ⟨rfl, c_5⟩
  have c_7 := c_3.no c_5
  have z_8 := c_7.size
  refine K.RW.q rfl (by kernel_rfl) (K.QR.k (v := .bool true) (by kernel_rfl)) ?_
  refine K.RW.q rfl rfl (K.QR.k (v := .bool true) (by kernel_rfl)) ?_
  refine K.RW.q rfl rfl (K.QR.k (v := .bool true) (by kernel_rfl)) ?_
  refine K.RW.q rfl (by kernel_rfl) (K.QR.k (v := .pointer none) (by kernel_rfl)) ?_
  refine K.RW.l (by kernel_rfl) (K.OW.call rfl [.pointer none] rfl rfl (by kernel_rfl) (lLines0  _) ?_) 
  rintro _ w_10 ⟨rfl, c_9⟩
  have c_11 := c_7.no c_9
  have z_12 := c_11.size
  refine K.RW.q rfl (by kernel_rfl) (K.QR.k (v := .bool true) (by kernel_rfl)) ?_
  refine K.RW.q rfl rfl (K.QR.k (v := .bool true) (by kernel_rfl)) ?_
  refine K.RW.q rfl rfl (K.QR.k (v := .bool true) (by kernel_rfl)) ?_
  refine K.RW.q rfl (by kernel_rfl) (K.QR.k (v := .pointer none) (by kernel_rfl)) ?_
  refine K.RW.l (by kernel_rfl) (K.OW.call rfl [.pointer none] rfl rfl (by kernel_rfl) (lPassing0  _) ?_) 
  rintro _ w_14 ⟨rfl, c_13⟩
  have c_15 := c_11.no c_13
  have z_16 := c_15.size
  refine K.RW.q rfl (by kernel_rfl) (K.QR.k (v := .bool true) (by kernel_rfl)) ?_
  refine K.RW.q rfl rfl (K.QR.k (v := .bool true) (by kernel_rfl)) ?_
  refine K.RW.q rfl rfl (K.QR.k (v := .bool true) (by kernel_rfl)) ?_
  refine K.RW.q rfl (by kernel_rfl) (K.QR.k (v := .pointer none) (by kernel_rfl)) ?_
  refine K.RW.q rfl (by kernel_rfl) (K.QR.k (v := .int .i64 a) (by kernel_rfl)) ?_
  refine K.RW.l (by kernel_rfl) (K.OW.call rfl [.pointer none, .int .i64 a] rfl rfl (by kernel_rfl) (lSlot0 a _) ?_) 
  rintro _ w_18 ⟨rfl, c_17⟩
  have c_19 := c_15.no c_17
  have z_20 := c_19.size
  refine K.RW.q rfl (by kernel_rfl) (K.QR.k (v := .bool true) (by kernel_rfl)) ?_
  refine K.RW.q rfl rfl (K.QR.k (v := .bool true) (by kernel_rfl)) ?_
  refine K.RW.q rfl rfl (K.QR.k (v := .bool true) (by kernel_rfl)) ?_
  refine K.RW.q rfl (by kernel_rfl) (K.QR.k (v := .pointer none) (by kernel_rfl)) ?_
  refine K.RW.l (by kernel_rfl) (K.OW.call rfl [.pointer none] rfl rfl (by kernel_rfl) (lConfig0  _) ?_) 
  rintro _ w_22 ⟨rfl, c_21⟩
  have c_23 := c_19.no c_21
  have z_24 := c_23.size
  refine K.RW.q rfl (by kernel_rfl) (K.QR.bd [] [.int .i64 0, .int .i64 0, .int .i64 0, .int .i64 0] rfl rfl (by kernel_rfl)) ?_
  refine K.RW.q rfl (by kernel_rfl) (K.QR.eqS (by kernel_rfl) rfl rfl rfl (eqCfg_t (by decide))) ?_
  refine K.RW.q rfl rfl (K.QR.k (v := .bool true) (by kernel_rfl)) ?_
  refine K.RW.q rfl rfl (K.QR.k (v := .bool true) (by kernel_rfl)) ?_
  refine K.RW.nil ?_
  refine K.thn_normal ?_
  refine K.KW.ret ?_
  refine ⟨.inr rfl, (.bool true), K.res1 rfl rfl, ?_⟩
  exact ⟨rfl, c_23⟩

theorem told_none3 {c : Cfg} {k a b : Int} (hc : cfgOk c) (hk : 5 ≤ k ∧ k ≤ 17) (h14 : ¬ (k = 14 ∨ k = 15) ∨ a = 0) (hb : k = 8 ∨ b = 0) (h : (⟨k, a, b⟩ : Nm) ∉ lasting c) (h2 : (⟨k, a, b⟩ : Nm) ∉ passing c) : toldS c ⟨k, a, b⟩ = lns c * 8 :=
  told_none hc hk (fun g => h14.resolve_left fun x => x g) (fun g => hb.resolve_left g) h h2
theorem told_last3 {c : Cfg} {k a b : Int} (hc : cfgOk c) (hk : 5 ≤ k ∧ k ≤ 17) {j : Nat} (hj : j < (lasting c).length) (h : nmIs ((lasting c).getD j nm0) ⟨k, a, b⟩) : toldS c ⟨k, a, b⟩ = j := told_last hc (show 1 < k by omega) hj h

set_option maxHeartbeats 1000000 in
set_option maxRecDepth 100000 in
theorem layNone_ok (c : Cfg) (kd x0 x1 : Int) (w0 : World) (hk : 0 ≤ kd ∧ kd ≤ 255) :
    K.KC Try.prog 11 #[.agg #[.int .i64 c.th, .int .i64 c.sl, .int .i64 c.lo, .int .i64 c.bu], .int .u8 kd, .agg #[.int .i64 x0, .int .i64 x1]] w0 (fun v w' => v = .bool true ∧ K.Chg K.No w0 w') := by
  refine K.KC.mk (n := 55) Try.func11 rfl rfl [.agg #[.int .i64 c.th, .int .i64 c.sl, .int .i64 c.lo, .int .i64 c.bu], .int .u8 kd, .agg #[.int .i64 x0, .int .i64 x1]] rfl rfl ?_
  refine K.KW.seq ?_
  -- region 0 law.go:86
  refine K.KW.region ?_
  refine K.RW.l rfl (K.OW.new (t := 63) rfl (fun r => .pointer (some ⟨r, 0, none⟩)) [.int .i64 c.th, .int .i64 c.sl, .int .i64 c.lo, .int .i64 c.bu] (by kernel_rfl) ?_) 
  intro w_1 r_2 hr_3 e_4 hs_5 b_6
  have c_7 := e_4
  have z_8 := c_7.size
  refine K.RW.l rfl (K.OW.new (t := 79) rfl (fun r => .pointer (some ⟨r, 0, none⟩)) [.int .i64 x0, .int .i64 x1] (by kernel_rfl) ?_) 
  intro w_9 r_10 hr_11 e_12 hs_13 b_14
  have c_15 := c_7.no e_12
  have z_16 := c_15.size
  have f_17 := b_6.no e_12
  refine K.RW.q rfl rfl (K.QR.k (v := .bool false) (by kernel_rfl)) ?_
  refine K.RW.nil ?_
  refine K.thn_normal ?_
  refine K.KW.seq ?_
  -- region 1 law.go:87
  refine K.KW.region ?_
  refine K.RW.q rfl rfl (K.QR.ldN [.int .i64 c.th, .int .i64 c.sl, .int .i64 c.lo, .int .i64 c.bu] rfl rfl (by kernel_rfl) (by kernel_rfl) (K.cells (K.cl (f_17.cell rfl) (K.cl (f_17.cell rfl) (K.cl (f_17.cell rfl) (K.cl (f_17.cell rfl) K.cl0)))))) ?_
  refine K.RW.l rfl (K.OW.call rfl [.agg #[.int .i64 c.th, .int .i64 c.sl, .int .i64 c.lo, .int .i64 c.bu]] rfl rfl (by kernel_rfl) (of_ok c _) ?_) 
  rintro v_18 w_19 (⟨b_20, rfl, hc_21, c_22, hb_23, hl_24⟩ | ⟨rfl, hn_26, c_25⟩)
  ·  -- a layout
    have c_27 := c_15.no c_22
    have z_28 := c_27.size
    have f_29 := f_17.no c_22
    have f_30 := b_14.no c_22
    refine K.RW.q rfl rfl (K.QR.k (v := .tuple #[.pointer (some ⟨b_20, 0, none⟩), .int .i64 0]) (by kernel_rfl)) ?_
    refine K.RW.q rfl rfl (K.QR.k (v := .pointer (some ⟨b_20, 0, none⟩)) (by kernel_rfl)) ?_
    refine K.RW.q rfl rfl (K.QR.k (v := .int .i64 0) (by kernel_rfl)) ?_
    refine K.RW.q rfl rfl (K.QR.k (v := .pointer (some ⟨b_20, 0, none⟩)) (by kernel_rfl)) ?_
    refine K.RW.q rfl rfl (K.QR.k (v := .int .i64 0) (by kernel_rfl)) ?_
    refine K.RW.nil ?_
    refine K.thn_normal ?_
    refine K.KW.seq ?_
    refine K.KW.seq ?_
    -- region 2 law.go:88
    refine K.KW.region ?_
    refine K.RW.q rfl rfl (K.QR.ldN [.int .i64 c.th, .int .i64 c.sl, .int .i64 c.lo, .int .i64 c.bu] rfl rfl (by kernel_rfl) (by kernel_rfl) (K.cells (K.cl (f_29.cell rfl) (K.cl (f_29.cell rfl) (K.cl (f_29.cell rfl) (K.cl (f_29.cell rfl) K.cl0)))))) ?_
    refine K.RW.l rfl (K.OW.call rfl [.agg #[.int .i64 c.th, .int .i64 c.sl, .int .i64 c.lo, .int .i64 c.bu]] rfl rfl (by kernel_rfl) (few_ok c _) ?_) 
    rintro v_34 w_32 ⟨hv_33, c_31⟩
    have c_35 := c_27.no c_31
    have z_36 := c_35.size
    have f_37 := f_29.no c_31
    have f_38 := f_30.no c_31
    have f_39 := hl_24.no c_31
    rcases Bool.eq_false_or_eq_true (decide (fewC c)) with hb_40 | hb_40
    ·  -- True
      rw [hb_40] at hv_33; subst hv_33
      have hp_41 := of_decide_eq_true hb_40
      refine K.RW.q rfl rfl (K.QR.k (v := .bool false) (by kernel_rfl)) ?_
      refine K.RW.q rfl rfl (K.QR.k (v := .bool false) (by kernel_rfl)) ?_
      refine K.RW.q rfl (by kernel_rfl) (K.QR.k (v := .int .i64 0) (by kernel_rfl)) ?_
      refine K.RW.q rfl (by kernel_rfl) (K.QR.k (v := .bool false) (by kernel_rfl)) ?_
      refine K.RW.q rfl rfl (K.QR.k (v := .bool false) (by kernel_rfl)) ?_
      refine K.RW.nil ?_
      refine K.thn_normal ?_
      refine K.KW.ifF rfl ?_
      refine K.KW.skip ?_
      refine K.thn_normal ?_
      refine K.KW.seq ?_
      -- region 4 law.go:91
      have hm13 : 0 ≤ kd % 13 ∧ kd % 13 ≤ 12 := by omega
      refine K.KW.region ?_
      refine K.RW.q rfl rfl (K.QR.k (v := .int .u8 kd) (by kernel_rfl)) ?_
      refine K.RW.q rfl rfl (K.QR.remany (k := .u8) (kd : Int) 13 ((kd : Int) % 13) (by kernel_rfl) (by omega) (by omega)) ?_
      refine K.RW.q rfl rfl (K.QR.nice (v := .int .i64 (IntKind.i64.wrap ((kd : Int) % 13))) (by kernel_rfl) (congrArg (Value.int .i64) (IntWalk.i64_in _ (by omega)))) ?_
      refine K.RW.q rfl rfl (K.QR.n64 ((5 : Int) + ((kd : Int) % 13 : Int)) ((5 : Int) + ((kd : Int) % 13 : Int)) (by kernel_rfl) (by omega)) ?_
      refine K.RW.q rfl rfl (K.QR.ixA 0 1 rfl rfl rfl Try.underlying79 (by kernel_rfl) (by omega) (by first | rfl | simp)) ?_
      refine K.RW.q rfl rfl (K.QR.ld1 (v := .int .i64 x0) rfl rfl (by kernel_rfl) (f_38.cell rfl)) ?_
      refine K.RW.q rfl rfl (K.QR.bd [(0, .int .i64 ((5 : Int) + ((kd : Int) % 13 : Int))), (1, .int .i64 x0)] [.int .i64 ((5 : Int) + ((kd : Int) % 13 : Int)), .int .i64 x0, .int .i64 0] rfl rfl (by kernel_rfl)) ?_
      refine K.RW.l rfl (K.OW.new (t := 81) rfl (fun r => .pointer (some ⟨r, 0, none⟩)) [.int .i64 0, .int .i64 0, .int .i64 0] (by kernel_rfl) ?_) 
      intro w_42 r_43 hr_44 e_45 hs_46 b_47
      have c_48 := c_35.no e_45
      have z_49 := c_48.size
      have f_50 := f_37.no e_45
      have f_51 := f_38.no e_45
      have f_52 := f_39.no e_45
      refine K.RW.l rfl (K.OW.st [.int .i64 ((5 : Int) + ((kd : Int) % 13 : Int)), .int .i64 x0, .int .i64 0] [.int .i64 ((5 : Int) + ((kd : Int) % 13 : Int)), .int .i64 x0, .int .i64 0] rfl rfl rfl (by kernel_rfl) b_47 rfl (K.one_cells (by rfl)) rfl rfl ?_) 
      intro w_53 e_54 hs_55 b_56
      have c_57 := c_48.own e_54 (by omega)
      have z_58 := c_57.size
      have f_59 := f_50.chg e_54 (f_50.ne b_47 (by decide))
      have f_60 := f_51.chg e_54 (f_51.ne b_47 (by decide))
      have f_61 := f_52.chg e_54 (f_52.ne b_47 (by decide))
      refine K.RW.nil ?_
      refine K.thn_normal ?_
      refine K.KW.seq ?_
      refine K.KW.seq ?_
      -- region 5 law.go:92
      refine K.KW.region ?_
      refine K.RW.q rfl rfl (K.QR.k (v := .pointer (some ⟨r_43, 0, none⟩)) (by kernel_rfl)) ?_
      refine K.RW.q rfl rfl (K.QR.ld1 (v := .int .i64 ((5 : Int) + ((kd : Int) % 13 : Int))) rfl rfl (by kernel_rfl) (b_56.cell rfl)) ?_
      by_cases h_62 : ((5 : Int) + ((kd : Int) % 13 : Int) : Int) = (14 : Int)
      ·  -- yes
        refine K.RW.q rfl rfl (K.QR.nice (v := .bool (((5 : Int) + ((kd : Int) % 13 : Int) : Int) == (14 : Int))) (by kernel_rfl) (congrArg Value.bool (beq_iff_eq.2 h_62))) ?_
        refine K.RW.q rfl rfl (K.QR.k (v := .bool true) (by kernel_rfl)) ?_
        refine K.RW.skip rfl (by kernel_rfl) ?_
        refine K.RW.skip rfl (by kernel_rfl) ?_
        refine K.RW.skip rfl (by kernel_rfl) ?_
        refine K.RW.q rfl rfl (K.QR.k (v := .bool true) (by kernel_rfl)) ?_
        refine K.RW.nil ?_
        refine K.thn_normal ?_
        refine K.KW.ifT rfl ?_
        -- region 6 law.go:93
        refine K.KW.region ?_
        refine K.RW.q rfl rfl (K.QR.k (v := .pointer (some ⟨r_43, 1, none⟩)) (by kernel_rfl)) ?_
        refine K.RW.l rfl (K.OW.st [.int .i64 0] [.int .i64 ((5 : Int) + ((kd : Int) % 13 : Int)), .int .i64 0, .int .i64 0] rfl rfl rfl (by kernel_rfl) b_56 rfl (K.one_cells (by rfl)) rfl rfl ?_) 
        intro w_63 e_64 hs_65 b_66
        have c_67 := c_57.own e_64 (by omega)
        have z_68 := c_67.size
        have f_69 := f_59.chg e_64 (f_59.ne b_56 (by decide))
        have f_70 := f_60.chg e_64 (f_60.ne b_56 (by decide))
        have f_71 := f_61.chg e_64 (f_61.ne b_56 (by decide))
        refine K.RW.nil ?_
        refine K.thn_normal ?_
        refine K.KW.seq ?_
        refine K.KW.seq ?_
        -- region 7 law.go:95
        refine K.KW.region ?_
        refine K.RW.q rfl rfl (K.QR.k (v := .pointer (some ⟨r_43, 0, none⟩)) (by kernel_rfl)) ?_
        refine K.RW.q rfl rfl (K.QR.ld1 (v := .int .i64 ((5 : Int) + ((kd : Int) % 13 : Int))) rfl rfl (by kernel_rfl) (b_66.cell rfl)) ?_
        by_cases h_72 : ((5 : Int) + ((kd : Int) % 13 : Int) : Int) = (8 : Int)
        ·  -- yes
          refine K.RW.q rfl rfl (K.QR.nice (v := .bool (((5 : Int) + ((kd : Int) % 13 : Int) : Int) == (8 : Int))) (by kernel_rfl) (congrArg Value.bool (beq_iff_eq.2 h_72))) ?_
          refine K.RW.nil ?_
          refine K.thn_normal ?_
          refine K.KW.ifT rfl ?_
          -- region 8 law.go:96
          refine K.KW.region ?_
          refine K.RW.q rfl rfl (K.QR.ixA 1 1 rfl rfl rfl Try.underlying79 (by kernel_rfl) (by omega) (by first | rfl | simp)) ?_
          refine K.RW.q rfl rfl (K.QR.ld1 (v := .int .i64 x1) rfl rfl (by kernel_rfl) (f_70.cell rfl)) ?_
          refine K.RW.q rfl rfl (K.QR.k (v := .pointer (some ⟨r_43, 2, none⟩)) (by kernel_rfl)) ?_
          refine K.RW.l rfl (K.OW.st [.int .i64 x1] [.int .i64 ((5 : Int) + ((kd : Int) % 13 : Int)), .int .i64 0, .int .i64 x1] rfl rfl rfl (by kernel_rfl) b_66 rfl (K.one_cells (by rfl)) rfl rfl ?_) 
          intro w_73 e_74 hs_75 b_76
          have c_77 := c_67.own e_74 (by omega)
          have z_78 := c_77.size
          have f_79 := f_69.chg e_74 (f_69.ne b_66 (by decide))
          have f_80 := f_70.chg e_74 (f_70.ne b_66 (by decide))
          have f_81 := f_71.chg e_74 (f_71.ne b_66 (by decide))
          refine K.RW.nil ?_
          refine K.thn_normal ?_
          refine K.KW.seq ?_
          -- region 9 law.go:98
          refine K.KW.drawn (fun w => K.Chg K.No w0 w ∧ (w.cell? ⟨r_2, 0, none⟩ = some (.int .i64 c.th)) ∧ (w.cell? ⟨r_2, 1, none⟩ = some (.int .i64 c.sl)) ∧ (w.cell? ⟨r_2, 2, none⟩ = some (.int .i64 c.lo)) ∧ (w.cell? ⟨r_2, 3, none⟩ = some (.int .i64 c.bu)) ∧ (w.cell? ⟨r_43, 0, none⟩ = some (.int .i64 ((5 : Int) + ((kd : Int) % 13 : Int)))) ∧ (w.cell? ⟨r_43, 1, none⟩ = some (.int .i64 0)) ∧ (w.cell? ⟨r_43, 2, none⟩ = some (.int .i64 x1))) (by kernel_rfl) ?_
          intro w_82 e_83 hs_84
          have c_86 := c_77.no e_83
          have z_87 := c_86.size
          have f_88 := f_79.no e_83
          have f_89 := f_80.no e_83
          have f_90 := f_81.no e_83
          have f_91 := b_76.no e_83
          have hS_85 : (fun w => K.Chg K.No w0 w ∧ (w.cell? ⟨r_2, 0, none⟩ = some (.int .i64 c.th)) ∧ (w.cell? ⟨r_2, 1, none⟩ = some (.int .i64 c.sl)) ∧ (w.cell? ⟨r_2, 2, none⟩ = some (.int .i64 c.lo)) ∧ (w.cell? ⟨r_2, 3, none⟩ = some (.int .i64 c.bu)) ∧ (w.cell? ⟨r_43, 0, none⟩ = some (.int .i64 ((5 : Int) + ((kd : Int) % 13 : Int)))) ∧ (w.cell? ⟨r_43, 1, none⟩ = some (.int .i64 0)) ∧ (w.cell? ⟨r_43, 2, none⟩ = some (.int .i64 x1))) w_82 := ⟨c_86, ((f_88).cell rfl), ((f_88).cell rfl), ((f_88).cell rfl), ((f_88).cell rfl), ((f_91).cell rfl), ((f_91).cell rfl), ((f_91).cell rfl)⟩
          refine K.DW.l 0 rfl (by kernel_rfl) rfl (K.OW.call rfl [] rfl rfl (by kernel_rfl) (awake06_ok _) ?_)
          rintro _ w_93 ⟨rfl, c_92⟩
          have c_94 := c_86.no c_92
          have z_95 := c_94.size
          have f_96 := f_88.no c_92
          have f_97 := f_89.no c_92
          have f_98 := f_90.no c_92
          have f_99 := f_91.no c_92
          have hS_100 : (fun w => K.Chg K.No w0 w ∧ (w.cell? ⟨r_2, 0, none⟩ = some (.int .i64 c.th)) ∧ (w.cell? ⟨r_2, 1, none⟩ = some (.int .i64 c.sl)) ∧ (w.cell? ⟨r_2, 2, none⟩ = some (.int .i64 c.lo)) ∧ (w.cell? ⟨r_2, 3, none⟩ = some (.int .i64 c.bu)) ∧ (w.cell? ⟨r_43, 0, none⟩ = some (.int .i64 ((5 : Int) + ((kd : Int) % 13 : Int)))) ∧ (w.cell? ⟨r_43, 1, none⟩ = some (.int .i64 0)) ∧ (w.cell? ⟨r_43, 2, none⟩ = some (.int .i64 x1))) w_93 := ⟨c_94, ((f_96).cell rfl), ((f_96).cell rfl), ((f_96).cell rfl), ((f_96).cell rfl), ((f_99).cell rfl), ((f_99).cell rfl), ((f_99).cell rfl)⟩
          refine ⟨hS_100, ?_⟩
          refine K.DW.q 1 (by kernel_rfl) rfl rfl (by kernel_rfl) rfl (fun w hS => K.QR.k (v := .bool true) (by kernel_rfl)) hS_100 ?_
          refine K.DW.q 2 (by kernel_rfl) rfl rfl (by kernel_rfl) (by kernel_rfl) (fun w hS => K.QR.k (v := .pointer (some ⟨b_20, 0, none⟩)) (by kernel_rfl)) hS_100 ?_
          refine K.DW.q 3 (by kernel_rfl) rfl rfl (by kernel_rfl) (by kernel_rfl) (fun w hS => K.QR.ldN [.int .i64 ((5 : Int) + ((kd : Int) % 13 : Int)), .int .i64 0, .int .i64 x1] rfl rfl (by kernel_rfl) (by kernel_rfl) (K.cells (K.cl (hS.2.2.2.2.2.1) (K.cl (hS.2.2.2.2.2.2.1) (K.cl (hS.2.2.2.2.2.2.2) K.cl0))))) hS_100 ?_
          refine K.DW.q 5 (by kernel_rfl) rfl rfl (by kernel_rfl) (by kernel_rfl) (fun w hS => K.QR.ldN [.int .i64 c.th, .int .i64 c.sl, .int .i64 c.lo, .int .i64 c.bu] rfl rfl (by kernel_rfl) (by kernel_rfl) (K.cells (K.cl (hS.2.1) (K.cl (hS.2.2.1) (K.cl (hS.2.2.2.1) (K.cl (hS.2.2.2.2.1) K.cl0)))))) hS_100 ?_
          refine K.DW.q 6 (by kernel_rfl) rfl rfl (by kernel_rfl) (by kernel_rfl) (fun w hS => K.QR.ldN [.int .i64 ((5 : Int) + ((kd : Int) % 13 : Int)), .int .i64 0, .int .i64 x1] rfl rfl (by kernel_rfl) (by kernel_rfl) (K.cells (K.cl (hS.2.2.2.2.2.1) (K.cl (hS.2.2.2.2.2.2.1) (K.cl (hS.2.2.2.2.2.2.2) K.cl0))))) hS_100 ?_
          refine K.DW.l 4 rfl (by kernel_rfl) (by kernel_rfl) (K.OW.call rfl [.pointer (some ⟨b_20, 0, none⟩), .agg #[.int .i64 ((5 : Int) + ((kd : Int) % 13 : Int)), .int .i64 0, .int .i64 x1]] rfl rfl (by kernel_rfl) (told_ok _ c (⟨(5 : Int) + ((kd : Int) % 13 : Int), 0, x1⟩ : Nm) _ (by assumption) f_98) ?_)
          rintro _ w_102 ⟨rfl, c_101⟩
          have c_103 := c_94.no c_101
          have z_104 := c_103.size
          have f_105 := f_96.no c_101
          have f_106 := f_97.no c_101
          have f_107 := f_98.no c_101
          have f_108 := f_99.no c_101
          have hS_109 : (fun w => K.Chg K.No w0 w ∧ (w.cell? ⟨r_2, 0, none⟩ = some (.int .i64 c.th)) ∧ (w.cell? ⟨r_2, 1, none⟩ = some (.int .i64 c.sl)) ∧ (w.cell? ⟨r_2, 2, none⟩ = some (.int .i64 c.lo)) ∧ (w.cell? ⟨r_2, 3, none⟩ = some (.int .i64 c.bu)) ∧ (w.cell? ⟨r_43, 0, none⟩ = some (.int .i64 ((5 : Int) + ((kd : Int) % 13 : Int)))) ∧ (w.cell? ⟨r_43, 1, none⟩ = some (.int .i64 0)) ∧ (w.cell? ⟨r_43, 2, none⟩ = some (.int .i64 x1))) w_102 := ⟨c_103, ((f_105).cell rfl), ((f_105).cell rfl), ((f_105).cell rfl), ((f_105).cell rfl), ((f_108).cell rfl), ((f_108).cell rfl), ((f_108).cell rfl)⟩
          refine ⟨hS_109, ?_⟩
          refine K.DW.l 7 rfl (by kernel_rfl) (by kernel_rfl) (K.OW.call rfl [.agg #[.int .i64 c.th, .int .i64 c.sl, .int .i64 c.lo, .int .i64 c.bu], .agg #[.int .i64 ((5 : Int) + ((kd : Int) % 13 : Int)), .int .i64 0, .int .i64 x1]] rfl rfl (by kernel_rfl) (at_ok c (⟨(5 : Int) + ((kd : Int) % 13 : Int), 0, x1⟩ : Nm) _ (by assumption)) ?_)
          rintro v_111 w_110 ⟨c_112, h_113⟩
          have c_114 := c_103.no c_112
          have z_115 := c_114.size
          have f_116 := f_105.no c_112
          have f_117 := f_106.no c_112
          have f_118 := f_107.no c_112
          have f_119 := f_108.no c_112
          rcases h_113 with ⟨j_120, rfl, g_121, h_122⟩ | ⟨j_123, rfl, g_124, h_125⟩ | ⟨rfl, g_126, h_127⟩
          ·  -- one way
            have hS_128 : (fun w => K.Chg K.No w0 w ∧ (w.cell? ⟨r_2, 0, none⟩ = some (.int .i64 c.th)) ∧ (w.cell? ⟨r_2, 1, none⟩ = some (.int .i64 c.sl)) ∧ (w.cell? ⟨r_2, 2, none⟩ = some (.int .i64 c.lo)) ∧ (w.cell? ⟨r_2, 3, none⟩ = some (.int .i64 c.bu)) ∧ (w.cell? ⟨r_43, 0, none⟩ = some (.int .i64 ((5 : Int) + ((kd : Int) % 13 : Int)))) ∧ (w.cell? ⟨r_43, 1, none⟩ = some (.int .i64 0)) ∧ (w.cell? ⟨r_43, 2, none⟩ = some (.int .i64 x1))) w_110 := ⟨c_114, ((f_116).cell rfl), ((f_116).cell rfl), ((f_116).cell rfl), ((f_116).cell rfl), ((f_119).cell rfl), ((f_119).cell rfl), ((f_119).cell rfl)⟩
            refine ⟨hS_128, ?_⟩
            refine K.DW.q 8 (by kernel_rfl) rfl rfl (by kernel_rfl) (by kernel_rfl) (fun w hS => K.QR.nice (v := .bool (((toldS c (⟨(5 : Int) + ((kd : Int) % 13 : Int), 0, x1⟩ : Nm)) : Int) == (((j_120 : Nat) : Int) : Int))) (by kernel_rfl) (congrArg Value.bool (beq_iff_eq.2 (by first | exact told_last3 (by assumption) (by omega) (by assumption) (by assumption) | exact told_pass (by assumption) (by assumption) (by assumption) | exact told_none3 (by assumption) (by omega) (by omega) (by omega) (by assumption) (by assumption))))) hS_128 ?_
            refine K.DW.q 9 (by kernel_rfl) rfl rfl (by kernel_rfl) rfl (fun w hS => K.QR.k (v := .bool true) (by kernel_rfl)) hS_128 ?_
            refine K.DW.q 10 (by kernel_rfl) rfl rfl (by kernel_rfl) rfl (fun w hS => K.QR.k (v := .bool true) (by kernel_rfl)) hS_128 ?_
            refine K.DW.done (by kernel_rfl) ?_
            refine K.thn_normal ?_
            refine K.KW.ret ?_
            refine ⟨.inr rfl, (.bool true), K.res1 rfl rfl, ?_⟩
            exact ⟨rfl, c_114⟩
          ·  -- one way
            have hS_129 : (fun w => K.Chg K.No w0 w ∧ (w.cell? ⟨r_2, 0, none⟩ = some (.int .i64 c.th)) ∧ (w.cell? ⟨r_2, 1, none⟩ = some (.int .i64 c.sl)) ∧ (w.cell? ⟨r_2, 2, none⟩ = some (.int .i64 c.lo)) ∧ (w.cell? ⟨r_2, 3, none⟩ = some (.int .i64 c.bu)) ∧ (w.cell? ⟨r_43, 0, none⟩ = some (.int .i64 ((5 : Int) + ((kd : Int) % 13 : Int)))) ∧ (w.cell? ⟨r_43, 1, none⟩ = some (.int .i64 0)) ∧ (w.cell? ⟨r_43, 2, none⟩ = some (.int .i64 x1))) w_110 := ⟨c_114, ((f_116).cell rfl), ((f_116).cell rfl), ((f_116).cell rfl), ((f_116).cell rfl), ((f_119).cell rfl), ((f_119).cell rfl), ((f_119).cell rfl)⟩
            refine ⟨hS_129, ?_⟩
            refine K.DW.q 8 (by kernel_rfl) rfl rfl (by kernel_rfl) (by kernel_rfl) (fun w hS => K.QR.nice (v := .bool (((toldS c (⟨(5 : Int) + ((kd : Int) % 13 : Int), 0, x1⟩ : Nm)) : Int) == ((-1 - (j_123 : Nat)) : Int))) (by kernel_rfl) (congrArg Value.bool (beq_iff_eq.2 (by first | exact told_last3 (by assumption) (by omega) (by assumption) (by assumption) | exact told_pass (by assumption) (by assumption) (by assumption) | exact told_none3 (by assumption) (by omega) (by omega) (by omega) (by assumption) (by assumption))))) hS_129 ?_
            refine K.DW.q 9 (by kernel_rfl) rfl rfl (by kernel_rfl) rfl (fun w hS => K.QR.k (v := .bool true) (by kernel_rfl)) hS_129 ?_
            refine K.DW.q 10 (by kernel_rfl) rfl rfl (by kernel_rfl) rfl (fun w hS => K.QR.k (v := .bool true) (by kernel_rfl)) hS_129 ?_
            refine K.DW.done (by kernel_rfl) ?_
            refine K.thn_normal ?_
            refine K.KW.ret ?_
            refine ⟨.inr rfl, (.bool true), K.res1 rfl rfl, ?_⟩
            exact ⟨rfl, c_114⟩
          ·  -- one way
            have hS_130 : (fun w => K.Chg K.No w0 w ∧ (w.cell? ⟨r_2, 0, none⟩ = some (.int .i64 c.th)) ∧ (w.cell? ⟨r_2, 1, none⟩ = some (.int .i64 c.sl)) ∧ (w.cell? ⟨r_2, 2, none⟩ = some (.int .i64 c.lo)) ∧ (w.cell? ⟨r_2, 3, none⟩ = some (.int .i64 c.bu)) ∧ (w.cell? ⟨r_43, 0, none⟩ = some (.int .i64 ((5 : Int) + ((kd : Int) % 13 : Int)))) ∧ (w.cell? ⟨r_43, 1, none⟩ = some (.int .i64 0)) ∧ (w.cell? ⟨r_43, 2, none⟩ = some (.int .i64 x1))) w_110 := ⟨c_114, ((f_116).cell rfl), ((f_116).cell rfl), ((f_116).cell rfl), ((f_116).cell rfl), ((f_119).cell rfl), ((f_119).cell rfl), ((f_119).cell rfl)⟩
            refine ⟨hS_130, ?_⟩
            refine K.DW.q 8 (by kernel_rfl) rfl rfl (by kernel_rfl) (by kernel_rfl) (fun w hS => K.QR.nice (v := .bool (((toldS c (⟨(5 : Int) + ((kd : Int) % 13 : Int), 0, x1⟩ : Nm)) : Int) == ((lns c * 8) : Int))) (by kernel_rfl) (congrArg Value.bool (beq_iff_eq.2 (by first | exact told_last3 (by assumption) (by omega) (by assumption) (by assumption) | exact told_pass (by assumption) (by assumption) (by assumption) | exact told_none3 (by assumption) (by omega) (by omega) (by omega) (by assumption) (by assumption))))) hS_130 ?_
            refine K.DW.q 9 (by kernel_rfl) rfl rfl (by kernel_rfl) rfl (fun w hS => K.QR.k (v := .bool true) (by kernel_rfl)) hS_130 ?_
            refine K.DW.q 10 (by kernel_rfl) rfl rfl (by kernel_rfl) rfl (fun w hS => K.QR.k (v := .bool true) (by kernel_rfl)) hS_130 ?_
            refine K.DW.done (by kernel_rfl) ?_
            refine K.thn_normal ?_
            refine K.KW.ret ?_
            refine ⟨.inr rfl, (.bool true), K.res1 rfl rfl, ?_⟩
            exact ⟨rfl, c_114⟩
        ·  -- no
          refine K.RW.q rfl rfl (K.QR.nice (v := .bool (((5 : Int) + ((kd : Int) % 13 : Int) : Int) == (8 : Int))) (by kernel_rfl) (congrArg Value.bool (beq_eq_false_iff_ne.2 h_72))) ?_
          refine K.RW.nil ?_
          refine K.thn_normal ?_
          refine K.KW.ifF rfl ?_
          refine K.KW.skip ?_
          refine K.thn_normal ?_
          refine K.KW.seq ?_
          -- region 9 law.go:98
          refine K.KW.drawn (fun w => K.Chg K.No w0 w ∧ (w.cell? ⟨r_2, 0, none⟩ = some (.int .i64 c.th)) ∧ (w.cell? ⟨r_2, 1, none⟩ = some (.int .i64 c.sl)) ∧ (w.cell? ⟨r_2, 2, none⟩ = some (.int .i64 c.lo)) ∧ (w.cell? ⟨r_2, 3, none⟩ = some (.int .i64 c.bu)) ∧ (w.cell? ⟨r_43, 0, none⟩ = some (.int .i64 ((5 : Int) + ((kd : Int) % 13 : Int)))) ∧ (w.cell? ⟨r_43, 1, none⟩ = some (.int .i64 0)) ∧ (w.cell? ⟨r_43, 2, none⟩ = some (.int .i64 0))) (by kernel_rfl) ?_
          intro w_131 e_132 hs_133
          have c_135 := c_67.no e_132
          have z_136 := c_135.size
          have f_137 := f_69.no e_132
          have f_138 := f_70.no e_132
          have f_139 := f_71.no e_132
          have f_140 := b_66.no e_132
          have hS_134 : (fun w => K.Chg K.No w0 w ∧ (w.cell? ⟨r_2, 0, none⟩ = some (.int .i64 c.th)) ∧ (w.cell? ⟨r_2, 1, none⟩ = some (.int .i64 c.sl)) ∧ (w.cell? ⟨r_2, 2, none⟩ = some (.int .i64 c.lo)) ∧ (w.cell? ⟨r_2, 3, none⟩ = some (.int .i64 c.bu)) ∧ (w.cell? ⟨r_43, 0, none⟩ = some (.int .i64 ((5 : Int) + ((kd : Int) % 13 : Int)))) ∧ (w.cell? ⟨r_43, 1, none⟩ = some (.int .i64 0)) ∧ (w.cell? ⟨r_43, 2, none⟩ = some (.int .i64 0))) w_131 := ⟨c_135, ((f_137).cell rfl), ((f_137).cell rfl), ((f_137).cell rfl), ((f_137).cell rfl), ((f_140).cell rfl), ((f_140).cell rfl), ((f_140).cell rfl)⟩
          refine K.DW.l 0 rfl (by kernel_rfl) rfl (K.OW.call rfl [] rfl rfl (by kernel_rfl) (awake06_ok _) ?_)
          rintro _ w_142 ⟨rfl, c_141⟩
          have c_143 := c_135.no c_141
          have z_144 := c_143.size
          have f_145 := f_137.no c_141
          have f_146 := f_138.no c_141
          have f_147 := f_139.no c_141
          have f_148 := f_140.no c_141
          have hS_149 : (fun w => K.Chg K.No w0 w ∧ (w.cell? ⟨r_2, 0, none⟩ = some (.int .i64 c.th)) ∧ (w.cell? ⟨r_2, 1, none⟩ = some (.int .i64 c.sl)) ∧ (w.cell? ⟨r_2, 2, none⟩ = some (.int .i64 c.lo)) ∧ (w.cell? ⟨r_2, 3, none⟩ = some (.int .i64 c.bu)) ∧ (w.cell? ⟨r_43, 0, none⟩ = some (.int .i64 ((5 : Int) + ((kd : Int) % 13 : Int)))) ∧ (w.cell? ⟨r_43, 1, none⟩ = some (.int .i64 0)) ∧ (w.cell? ⟨r_43, 2, none⟩ = some (.int .i64 0))) w_142 := ⟨c_143, ((f_145).cell rfl), ((f_145).cell rfl), ((f_145).cell rfl), ((f_145).cell rfl), ((f_148).cell rfl), ((f_148).cell rfl), ((f_148).cell rfl)⟩
          refine ⟨hS_149, ?_⟩
          refine K.DW.q 1 (by kernel_rfl) rfl rfl (by kernel_rfl) rfl (fun w hS => K.QR.k (v := .bool true) (by kernel_rfl)) hS_149 ?_
          refine K.DW.q 2 (by kernel_rfl) rfl rfl (by kernel_rfl) (by kernel_rfl) (fun w hS => K.QR.k (v := .pointer (some ⟨b_20, 0, none⟩)) (by kernel_rfl)) hS_149 ?_
          refine K.DW.q 3 (by kernel_rfl) rfl rfl (by kernel_rfl) (by kernel_rfl) (fun w hS => K.QR.ldN [.int .i64 ((5 : Int) + ((kd : Int) % 13 : Int)), .int .i64 0, .int .i64 0] rfl rfl (by kernel_rfl) (by kernel_rfl) (K.cells (K.cl (hS.2.2.2.2.2.1) (K.cl (hS.2.2.2.2.2.2.1) (K.cl (hS.2.2.2.2.2.2.2) K.cl0))))) hS_149 ?_
          refine K.DW.q 5 (by kernel_rfl) rfl rfl (by kernel_rfl) (by kernel_rfl) (fun w hS => K.QR.ldN [.int .i64 c.th, .int .i64 c.sl, .int .i64 c.lo, .int .i64 c.bu] rfl rfl (by kernel_rfl) (by kernel_rfl) (K.cells (K.cl (hS.2.1) (K.cl (hS.2.2.1) (K.cl (hS.2.2.2.1) (K.cl (hS.2.2.2.2.1) K.cl0)))))) hS_149 ?_
          refine K.DW.q 6 (by kernel_rfl) rfl rfl (by kernel_rfl) (by kernel_rfl) (fun w hS => K.QR.ldN [.int .i64 ((5 : Int) + ((kd : Int) % 13 : Int)), .int .i64 0, .int .i64 0] rfl rfl (by kernel_rfl) (by kernel_rfl) (K.cells (K.cl (hS.2.2.2.2.2.1) (K.cl (hS.2.2.2.2.2.2.1) (K.cl (hS.2.2.2.2.2.2.2) K.cl0))))) hS_149 ?_
          refine K.DW.l 4 rfl (by kernel_rfl) (by kernel_rfl) (K.OW.call rfl [.pointer (some ⟨b_20, 0, none⟩), .agg #[.int .i64 ((5 : Int) + ((kd : Int) % 13 : Int)), .int .i64 0, .int .i64 0]] rfl rfl (by kernel_rfl) (told_ok _ c (⟨(5 : Int) + ((kd : Int) % 13 : Int), 0, 0⟩ : Nm) _ (by assumption) f_147) ?_)
          rintro _ w_151 ⟨rfl, c_150⟩
          have c_152 := c_143.no c_150
          have z_153 := c_152.size
          have f_154 := f_145.no c_150
          have f_155 := f_146.no c_150
          have f_156 := f_147.no c_150
          have f_157 := f_148.no c_150
          have hS_158 : (fun w => K.Chg K.No w0 w ∧ (w.cell? ⟨r_2, 0, none⟩ = some (.int .i64 c.th)) ∧ (w.cell? ⟨r_2, 1, none⟩ = some (.int .i64 c.sl)) ∧ (w.cell? ⟨r_2, 2, none⟩ = some (.int .i64 c.lo)) ∧ (w.cell? ⟨r_2, 3, none⟩ = some (.int .i64 c.bu)) ∧ (w.cell? ⟨r_43, 0, none⟩ = some (.int .i64 ((5 : Int) + ((kd : Int) % 13 : Int)))) ∧ (w.cell? ⟨r_43, 1, none⟩ = some (.int .i64 0)) ∧ (w.cell? ⟨r_43, 2, none⟩ = some (.int .i64 0))) w_151 := ⟨c_152, ((f_154).cell rfl), ((f_154).cell rfl), ((f_154).cell rfl), ((f_154).cell rfl), ((f_157).cell rfl), ((f_157).cell rfl), ((f_157).cell rfl)⟩
          refine ⟨hS_158, ?_⟩
          refine K.DW.l 7 rfl (by kernel_rfl) (by kernel_rfl) (K.OW.call rfl [.agg #[.int .i64 c.th, .int .i64 c.sl, .int .i64 c.lo, .int .i64 c.bu], .agg #[.int .i64 ((5 : Int) + ((kd : Int) % 13 : Int)), .int .i64 0, .int .i64 0]] rfl rfl (by kernel_rfl) (at_ok c (⟨(5 : Int) + ((kd : Int) % 13 : Int), 0, 0⟩ : Nm) _ (by assumption)) ?_)
          rintro v_160 w_159 ⟨c_161, h_162⟩
          have c_163 := c_152.no c_161
          have z_164 := c_163.size
          have f_165 := f_154.no c_161
          have f_166 := f_155.no c_161
          have f_167 := f_156.no c_161
          have f_168 := f_157.no c_161
          rcases h_162 with ⟨j_169, rfl, g_170, h_171⟩ | ⟨j_172, rfl, g_173, h_174⟩ | ⟨rfl, g_175, h_176⟩
          ·  -- one way
            have hS_177 : (fun w => K.Chg K.No w0 w ∧ (w.cell? ⟨r_2, 0, none⟩ = some (.int .i64 c.th)) ∧ (w.cell? ⟨r_2, 1, none⟩ = some (.int .i64 c.sl)) ∧ (w.cell? ⟨r_2, 2, none⟩ = some (.int .i64 c.lo)) ∧ (w.cell? ⟨r_2, 3, none⟩ = some (.int .i64 c.bu)) ∧ (w.cell? ⟨r_43, 0, none⟩ = some (.int .i64 ((5 : Int) + ((kd : Int) % 13 : Int)))) ∧ (w.cell? ⟨r_43, 1, none⟩ = some (.int .i64 0)) ∧ (w.cell? ⟨r_43, 2, none⟩ = some (.int .i64 0))) w_159 := ⟨c_163, ((f_165).cell rfl), ((f_165).cell rfl), ((f_165).cell rfl), ((f_165).cell rfl), ((f_168).cell rfl), ((f_168).cell rfl), ((f_168).cell rfl)⟩
            refine ⟨hS_177, ?_⟩
            refine K.DW.q 8 (by kernel_rfl) rfl rfl (by kernel_rfl) (by kernel_rfl) (fun w hS => K.QR.nice (v := .bool (((toldS c (⟨(5 : Int) + ((kd : Int) % 13 : Int), 0, 0⟩ : Nm)) : Int) == (((j_169 : Nat) : Int) : Int))) (by kernel_rfl) (congrArg Value.bool (beq_iff_eq.2 (by first | exact told_last3 (by assumption) (by omega) (by assumption) (by assumption) | exact told_pass (by assumption) (by assumption) (by assumption) | exact told_none3 (by assumption) (by omega) (by omega) (by omega) (by assumption) (by assumption))))) hS_177 ?_
            refine K.DW.q 9 (by kernel_rfl) rfl rfl (by kernel_rfl) rfl (fun w hS => K.QR.k (v := .bool true) (by kernel_rfl)) hS_177 ?_
            refine K.DW.q 10 (by kernel_rfl) rfl rfl (by kernel_rfl) rfl (fun w hS => K.QR.k (v := .bool true) (by kernel_rfl)) hS_177 ?_
            refine K.DW.done (by kernel_rfl) ?_
            refine K.thn_normal ?_
            refine K.KW.ret ?_
            refine ⟨.inr rfl, (.bool true), K.res1 rfl rfl, ?_⟩
            exact ⟨rfl, c_163⟩
          ·  -- one way
            have hS_178 : (fun w => K.Chg K.No w0 w ∧ (w.cell? ⟨r_2, 0, none⟩ = some (.int .i64 c.th)) ∧ (w.cell? ⟨r_2, 1, none⟩ = some (.int .i64 c.sl)) ∧ (w.cell? ⟨r_2, 2, none⟩ = some (.int .i64 c.lo)) ∧ (w.cell? ⟨r_2, 3, none⟩ = some (.int .i64 c.bu)) ∧ (w.cell? ⟨r_43, 0, none⟩ = some (.int .i64 ((5 : Int) + ((kd : Int) % 13 : Int)))) ∧ (w.cell? ⟨r_43, 1, none⟩ = some (.int .i64 0)) ∧ (w.cell? ⟨r_43, 2, none⟩ = some (.int .i64 0))) w_159 := ⟨c_163, ((f_165).cell rfl), ((f_165).cell rfl), ((f_165).cell rfl), ((f_165).cell rfl), ((f_168).cell rfl), ((f_168).cell rfl), ((f_168).cell rfl)⟩
            refine ⟨hS_178, ?_⟩
            refine K.DW.q 8 (by kernel_rfl) rfl rfl (by kernel_rfl) (by kernel_rfl) (fun w hS => K.QR.nice (v := .bool (((toldS c (⟨(5 : Int) + ((kd : Int) % 13 : Int), 0, 0⟩ : Nm)) : Int) == ((-1 - (j_172 : Nat)) : Int))) (by kernel_rfl) (congrArg Value.bool (beq_iff_eq.2 (by first | exact told_last3 (by assumption) (by omega) (by assumption) (by assumption) | exact told_pass (by assumption) (by assumption) (by assumption) | exact told_none3 (by assumption) (by omega) (by omega) (by omega) (by assumption) (by assumption))))) hS_178 ?_
            refine K.DW.q 9 (by kernel_rfl) rfl rfl (by kernel_rfl) rfl (fun w hS => K.QR.k (v := .bool true) (by kernel_rfl)) hS_178 ?_
            refine K.DW.q 10 (by kernel_rfl) rfl rfl (by kernel_rfl) rfl (fun w hS => K.QR.k (v := .bool true) (by kernel_rfl)) hS_178 ?_
            refine K.DW.done (by kernel_rfl) ?_
            refine K.thn_normal ?_
            refine K.KW.ret ?_
            refine ⟨.inr rfl, (.bool true), K.res1 rfl rfl, ?_⟩
            exact ⟨rfl, c_163⟩
          ·  -- one way
            have hS_179 : (fun w => K.Chg K.No w0 w ∧ (w.cell? ⟨r_2, 0, none⟩ = some (.int .i64 c.th)) ∧ (w.cell? ⟨r_2, 1, none⟩ = some (.int .i64 c.sl)) ∧ (w.cell? ⟨r_2, 2, none⟩ = some (.int .i64 c.lo)) ∧ (w.cell? ⟨r_2, 3, none⟩ = some (.int .i64 c.bu)) ∧ (w.cell? ⟨r_43, 0, none⟩ = some (.int .i64 ((5 : Int) + ((kd : Int) % 13 : Int)))) ∧ (w.cell? ⟨r_43, 1, none⟩ = some (.int .i64 0)) ∧ (w.cell? ⟨r_43, 2, none⟩ = some (.int .i64 0))) w_159 := ⟨c_163, ((f_165).cell rfl), ((f_165).cell rfl), ((f_165).cell rfl), ((f_165).cell rfl), ((f_168).cell rfl), ((f_168).cell rfl), ((f_168).cell rfl)⟩
            refine ⟨hS_179, ?_⟩
            refine K.DW.q 8 (by kernel_rfl) rfl rfl (by kernel_rfl) (by kernel_rfl) (fun w hS => K.QR.nice (v := .bool (((toldS c (⟨(5 : Int) + ((kd : Int) % 13 : Int), 0, 0⟩ : Nm)) : Int) == ((lns c * 8) : Int))) (by kernel_rfl) (congrArg Value.bool (beq_iff_eq.2 (by first | exact told_last3 (by assumption) (by omega) (by assumption) (by assumption) | exact told_pass (by assumption) (by assumption) (by assumption) | exact told_none3 (by assumption) (by omega) (by omega) (by omega) (by assumption) (by assumption))))) hS_179 ?_
            refine K.DW.q 9 (by kernel_rfl) rfl rfl (by kernel_rfl) rfl (fun w hS => K.QR.k (v := .bool true) (by kernel_rfl)) hS_179 ?_
            refine K.DW.q 10 (by kernel_rfl) rfl rfl (by kernel_rfl) rfl (fun w hS => K.QR.k (v := .bool true) (by kernel_rfl)) hS_179 ?_
            refine K.DW.done (by kernel_rfl) ?_
            refine K.thn_normal ?_
            refine K.KW.ret ?_
            refine ⟨.inr rfl, (.bool true), K.res1 rfl rfl, ?_⟩
            exact ⟨rfl, c_163⟩
      ·  -- no
        refine K.RW.q rfl rfl (K.QR.nice (v := .bool (((5 : Int) + ((kd : Int) % 13 : Int) : Int) == (14 : Int))) (by kernel_rfl) (congrArg Value.bool (beq_eq_false_iff_ne.2 h_62))) ?_
        refine K.RW.q rfl rfl (K.QR.k (v := .bool false) (by kernel_rfl)) ?_
        refine K.RW.q rfl (by kernel_rfl) (K.QR.k (v := .pointer (some ⟨r_43, 0, none⟩)) (by kernel_rfl)) ?_
        refine K.RW.q rfl (by kernel_rfl) (K.QR.ld1 (v := .int .i64 ((5 : Int) + ((kd : Int) % 13 : Int))) rfl rfl (by kernel_rfl) (b_56.cell rfl)) ?_
        by_cases h_180 : ((5 : Int) + ((kd : Int) % 13 : Int) : Int) = (15 : Int)
        ·  -- yes
          refine K.RW.q rfl (by kernel_rfl) (K.QR.nice (v := .bool (((5 : Int) + ((kd : Int) % 13 : Int) : Int) == (15 : Int))) (by kernel_rfl) (congrArg Value.bool (beq_iff_eq.2 h_180))) ?_
          refine K.RW.q rfl rfl (K.QR.k (v := .bool true) (by kernel_rfl)) ?_
          refine K.RW.nil ?_
          refine K.thn_normal ?_
          refine K.KW.ifT rfl ?_
          -- region 6 law.go:93
          refine K.KW.region ?_
          refine K.RW.q rfl rfl (K.QR.k (v := .pointer (some ⟨r_43, 1, none⟩)) (by kernel_rfl)) ?_
          refine K.RW.l rfl (K.OW.st [.int .i64 0] [.int .i64 ((5 : Int) + ((kd : Int) % 13 : Int)), .int .i64 0, .int .i64 0] rfl rfl rfl (by kernel_rfl) b_56 rfl (K.one_cells (by rfl)) rfl rfl ?_) 
          intro w_181 e_182 hs_183 b_184
          have c_185 := c_57.own e_182 (by omega)
          have z_186 := c_185.size
          have f_187 := f_59.chg e_182 (f_59.ne b_56 (by decide))
          have f_188 := f_60.chg e_182 (f_60.ne b_56 (by decide))
          have f_189 := f_61.chg e_182 (f_61.ne b_56 (by decide))
          refine K.RW.nil ?_
          refine K.thn_normal ?_
          refine K.KW.seq ?_
          refine K.KW.seq ?_
          -- region 7 law.go:95
          refine K.KW.region ?_
          refine K.RW.q rfl rfl (K.QR.k (v := .pointer (some ⟨r_43, 0, none⟩)) (by kernel_rfl)) ?_
          refine K.RW.q rfl rfl (K.QR.ld1 (v := .int .i64 ((5 : Int) + ((kd : Int) % 13 : Int))) rfl rfl (by kernel_rfl) (b_184.cell rfl)) ?_
          by_cases h_190 : ((5 : Int) + ((kd : Int) % 13 : Int) : Int) = (8 : Int)
          ·  -- yes
            refine K.RW.q rfl rfl (K.QR.nice (v := .bool (((5 : Int) + ((kd : Int) % 13 : Int) : Int) == (8 : Int))) (by kernel_rfl) (congrArg Value.bool (beq_iff_eq.2 h_190))) ?_
            refine K.RW.nil ?_
            refine K.thn_normal ?_
            refine K.KW.ifT rfl ?_
            -- region 8 law.go:96
            refine K.KW.region ?_
            refine K.RW.q rfl rfl (K.QR.ixA 1 1 rfl rfl rfl Try.underlying79 (by kernel_rfl) (by omega) (by first | rfl | simp)) ?_
            refine K.RW.q rfl rfl (K.QR.ld1 (v := .int .i64 x1) rfl rfl (by kernel_rfl) (f_188.cell rfl)) ?_
            refine K.RW.q rfl rfl (K.QR.k (v := .pointer (some ⟨r_43, 2, none⟩)) (by kernel_rfl)) ?_
            refine K.RW.l rfl (K.OW.st [.int .i64 x1] [.int .i64 ((5 : Int) + ((kd : Int) % 13 : Int)), .int .i64 0, .int .i64 x1] rfl rfl rfl (by kernel_rfl) b_184 rfl (K.one_cells (by rfl)) rfl rfl ?_) 
            intro w_191 e_192 hs_193 b_194
            have c_195 := c_185.own e_192 (by omega)
            have z_196 := c_195.size
            have f_197 := f_187.chg e_192 (f_187.ne b_184 (by decide))
            have f_198 := f_188.chg e_192 (f_188.ne b_184 (by decide))
            have f_199 := f_189.chg e_192 (f_189.ne b_184 (by decide))
            refine K.RW.nil ?_
            refine K.thn_normal ?_
            refine K.KW.seq ?_
            -- region 9 law.go:98
            refine K.KW.drawn (fun w => K.Chg K.No w0 w ∧ (w.cell? ⟨r_2, 0, none⟩ = some (.int .i64 c.th)) ∧ (w.cell? ⟨r_2, 1, none⟩ = some (.int .i64 c.sl)) ∧ (w.cell? ⟨r_2, 2, none⟩ = some (.int .i64 c.lo)) ∧ (w.cell? ⟨r_2, 3, none⟩ = some (.int .i64 c.bu)) ∧ (w.cell? ⟨r_43, 0, none⟩ = some (.int .i64 ((5 : Int) + ((kd : Int) % 13 : Int)))) ∧ (w.cell? ⟨r_43, 1, none⟩ = some (.int .i64 0)) ∧ (w.cell? ⟨r_43, 2, none⟩ = some (.int .i64 x1))) (by kernel_rfl) ?_
            intro w_200 e_201 hs_202
            have c_204 := c_195.no e_201
            have z_205 := c_204.size
            have f_206 := f_197.no e_201
            have f_207 := f_198.no e_201
            have f_208 := f_199.no e_201
            have f_209 := b_194.no e_201
            have hS_203 : (fun w => K.Chg K.No w0 w ∧ (w.cell? ⟨r_2, 0, none⟩ = some (.int .i64 c.th)) ∧ (w.cell? ⟨r_2, 1, none⟩ = some (.int .i64 c.sl)) ∧ (w.cell? ⟨r_2, 2, none⟩ = some (.int .i64 c.lo)) ∧ (w.cell? ⟨r_2, 3, none⟩ = some (.int .i64 c.bu)) ∧ (w.cell? ⟨r_43, 0, none⟩ = some (.int .i64 ((5 : Int) + ((kd : Int) % 13 : Int)))) ∧ (w.cell? ⟨r_43, 1, none⟩ = some (.int .i64 0)) ∧ (w.cell? ⟨r_43, 2, none⟩ = some (.int .i64 x1))) w_200 := ⟨c_204, ((f_206).cell rfl), ((f_206).cell rfl), ((f_206).cell rfl), ((f_206).cell rfl), ((f_209).cell rfl), ((f_209).cell rfl), ((f_209).cell rfl)⟩
            refine K.DW.l 0 rfl (by kernel_rfl) rfl (K.OW.call rfl [] rfl rfl (by kernel_rfl) (awake06_ok _) ?_)
            rintro _ w_211 ⟨rfl, c_210⟩
            have c_212 := c_204.no c_210
            have z_213 := c_212.size
            have f_214 := f_206.no c_210
            have f_215 := f_207.no c_210
            have f_216 := f_208.no c_210
            have f_217 := f_209.no c_210
            have hS_218 : (fun w => K.Chg K.No w0 w ∧ (w.cell? ⟨r_2, 0, none⟩ = some (.int .i64 c.th)) ∧ (w.cell? ⟨r_2, 1, none⟩ = some (.int .i64 c.sl)) ∧ (w.cell? ⟨r_2, 2, none⟩ = some (.int .i64 c.lo)) ∧ (w.cell? ⟨r_2, 3, none⟩ = some (.int .i64 c.bu)) ∧ (w.cell? ⟨r_43, 0, none⟩ = some (.int .i64 ((5 : Int) + ((kd : Int) % 13 : Int)))) ∧ (w.cell? ⟨r_43, 1, none⟩ = some (.int .i64 0)) ∧ (w.cell? ⟨r_43, 2, none⟩ = some (.int .i64 x1))) w_211 := ⟨c_212, ((f_214).cell rfl), ((f_214).cell rfl), ((f_214).cell rfl), ((f_214).cell rfl), ((f_217).cell rfl), ((f_217).cell rfl), ((f_217).cell rfl)⟩
            refine ⟨hS_218, ?_⟩
            refine K.DW.q 1 (by kernel_rfl) rfl rfl (by kernel_rfl) rfl (fun w hS => K.QR.k (v := .bool true) (by kernel_rfl)) hS_218 ?_
            refine K.DW.q 2 (by kernel_rfl) rfl rfl (by kernel_rfl) (by kernel_rfl) (fun w hS => K.QR.k (v := .pointer (some ⟨b_20, 0, none⟩)) (by kernel_rfl)) hS_218 ?_
            refine K.DW.q 3 (by kernel_rfl) rfl rfl (by kernel_rfl) (by kernel_rfl) (fun w hS => K.QR.ldN [.int .i64 ((5 : Int) + ((kd : Int) % 13 : Int)), .int .i64 0, .int .i64 x1] rfl rfl (by kernel_rfl) (by kernel_rfl) (K.cells (K.cl (hS.2.2.2.2.2.1) (K.cl (hS.2.2.2.2.2.2.1) (K.cl (hS.2.2.2.2.2.2.2) K.cl0))))) hS_218 ?_
            refine K.DW.q 5 (by kernel_rfl) rfl rfl (by kernel_rfl) (by kernel_rfl) (fun w hS => K.QR.ldN [.int .i64 c.th, .int .i64 c.sl, .int .i64 c.lo, .int .i64 c.bu] rfl rfl (by kernel_rfl) (by kernel_rfl) (K.cells (K.cl (hS.2.1) (K.cl (hS.2.2.1) (K.cl (hS.2.2.2.1) (K.cl (hS.2.2.2.2.1) K.cl0)))))) hS_218 ?_
            refine K.DW.q 6 (by kernel_rfl) rfl rfl (by kernel_rfl) (by kernel_rfl) (fun w hS => K.QR.ldN [.int .i64 ((5 : Int) + ((kd : Int) % 13 : Int)), .int .i64 0, .int .i64 x1] rfl rfl (by kernel_rfl) (by kernel_rfl) (K.cells (K.cl (hS.2.2.2.2.2.1) (K.cl (hS.2.2.2.2.2.2.1) (K.cl (hS.2.2.2.2.2.2.2) K.cl0))))) hS_218 ?_
            refine K.DW.l 4 rfl (by kernel_rfl) (by kernel_rfl) (K.OW.call rfl [.pointer (some ⟨b_20, 0, none⟩), .agg #[.int .i64 ((5 : Int) + ((kd : Int) % 13 : Int)), .int .i64 0, .int .i64 x1]] rfl rfl (by kernel_rfl) (told_ok _ c (⟨(5 : Int) + ((kd : Int) % 13 : Int), 0, x1⟩ : Nm) _ (by assumption) f_216) ?_)
            rintro _ w_220 ⟨rfl, c_219⟩
            have c_221 := c_212.no c_219
            have z_222 := c_221.size
            have f_223 := f_214.no c_219
            have f_224 := f_215.no c_219
            have f_225 := f_216.no c_219
            have f_226 := f_217.no c_219
            have hS_227 : (fun w => K.Chg K.No w0 w ∧ (w.cell? ⟨r_2, 0, none⟩ = some (.int .i64 c.th)) ∧ (w.cell? ⟨r_2, 1, none⟩ = some (.int .i64 c.sl)) ∧ (w.cell? ⟨r_2, 2, none⟩ = some (.int .i64 c.lo)) ∧ (w.cell? ⟨r_2, 3, none⟩ = some (.int .i64 c.bu)) ∧ (w.cell? ⟨r_43, 0, none⟩ = some (.int .i64 ((5 : Int) + ((kd : Int) % 13 : Int)))) ∧ (w.cell? ⟨r_43, 1, none⟩ = some (.int .i64 0)) ∧ (w.cell? ⟨r_43, 2, none⟩ = some (.int .i64 x1))) w_220 := ⟨c_221, ((f_223).cell rfl), ((f_223).cell rfl), ((f_223).cell rfl), ((f_223).cell rfl), ((f_226).cell rfl), ((f_226).cell rfl), ((f_226).cell rfl)⟩
            refine ⟨hS_227, ?_⟩
            refine K.DW.l 7 rfl (by kernel_rfl) (by kernel_rfl) (K.OW.call rfl [.agg #[.int .i64 c.th, .int .i64 c.sl, .int .i64 c.lo, .int .i64 c.bu], .agg #[.int .i64 ((5 : Int) + ((kd : Int) % 13 : Int)), .int .i64 0, .int .i64 x1]] rfl rfl (by kernel_rfl) (at_ok c (⟨(5 : Int) + ((kd : Int) % 13 : Int), 0, x1⟩ : Nm) _ (by assumption)) ?_)
            rintro v_229 w_228 ⟨c_230, h_231⟩
            have c_232 := c_221.no c_230
            have z_233 := c_232.size
            have f_234 := f_223.no c_230
            have f_235 := f_224.no c_230
            have f_236 := f_225.no c_230
            have f_237 := f_226.no c_230
            rcases h_231 with ⟨j_238, rfl, g_239, h_240⟩ | ⟨j_241, rfl, g_242, h_243⟩ | ⟨rfl, g_244, h_245⟩
            ·  -- one way
              have hS_246 : (fun w => K.Chg K.No w0 w ∧ (w.cell? ⟨r_2, 0, none⟩ = some (.int .i64 c.th)) ∧ (w.cell? ⟨r_2, 1, none⟩ = some (.int .i64 c.sl)) ∧ (w.cell? ⟨r_2, 2, none⟩ = some (.int .i64 c.lo)) ∧ (w.cell? ⟨r_2, 3, none⟩ = some (.int .i64 c.bu)) ∧ (w.cell? ⟨r_43, 0, none⟩ = some (.int .i64 ((5 : Int) + ((kd : Int) % 13 : Int)))) ∧ (w.cell? ⟨r_43, 1, none⟩ = some (.int .i64 0)) ∧ (w.cell? ⟨r_43, 2, none⟩ = some (.int .i64 x1))) w_228 := ⟨c_232, ((f_234).cell rfl), ((f_234).cell rfl), ((f_234).cell rfl), ((f_234).cell rfl), ((f_237).cell rfl), ((f_237).cell rfl), ((f_237).cell rfl)⟩
              refine ⟨hS_246, ?_⟩
              refine K.DW.q 8 (by kernel_rfl) rfl rfl (by kernel_rfl) (by kernel_rfl) (fun w hS => K.QR.nice (v := .bool (((toldS c (⟨(5 : Int) + ((kd : Int) % 13 : Int), 0, x1⟩ : Nm)) : Int) == (((j_238 : Nat) : Int) : Int))) (by kernel_rfl) (congrArg Value.bool (beq_iff_eq.2 (by first | exact told_last3 (by assumption) (by omega) (by assumption) (by assumption) | exact told_pass (by assumption) (by assumption) (by assumption) | exact told_none3 (by assumption) (by omega) (by omega) (by omega) (by assumption) (by assumption))))) hS_246 ?_
              refine K.DW.q 9 (by kernel_rfl) rfl rfl (by kernel_rfl) rfl (fun w hS => K.QR.k (v := .bool true) (by kernel_rfl)) hS_246 ?_
              refine K.DW.q 10 (by kernel_rfl) rfl rfl (by kernel_rfl) rfl (fun w hS => K.QR.k (v := .bool true) (by kernel_rfl)) hS_246 ?_
              refine K.DW.done (by kernel_rfl) ?_
              refine K.thn_normal ?_
              refine K.KW.ret ?_
              refine ⟨.inr rfl, (.bool true), K.res1 rfl rfl, ?_⟩
              exact ⟨rfl, c_232⟩
            ·  -- one way
              have hS_247 : (fun w => K.Chg K.No w0 w ∧ (w.cell? ⟨r_2, 0, none⟩ = some (.int .i64 c.th)) ∧ (w.cell? ⟨r_2, 1, none⟩ = some (.int .i64 c.sl)) ∧ (w.cell? ⟨r_2, 2, none⟩ = some (.int .i64 c.lo)) ∧ (w.cell? ⟨r_2, 3, none⟩ = some (.int .i64 c.bu)) ∧ (w.cell? ⟨r_43, 0, none⟩ = some (.int .i64 ((5 : Int) + ((kd : Int) % 13 : Int)))) ∧ (w.cell? ⟨r_43, 1, none⟩ = some (.int .i64 0)) ∧ (w.cell? ⟨r_43, 2, none⟩ = some (.int .i64 x1))) w_228 := ⟨c_232, ((f_234).cell rfl), ((f_234).cell rfl), ((f_234).cell rfl), ((f_234).cell rfl), ((f_237).cell rfl), ((f_237).cell rfl), ((f_237).cell rfl)⟩
              refine ⟨hS_247, ?_⟩
              refine K.DW.q 8 (by kernel_rfl) rfl rfl (by kernel_rfl) (by kernel_rfl) (fun w hS => K.QR.nice (v := .bool (((toldS c (⟨(5 : Int) + ((kd : Int) % 13 : Int), 0, x1⟩ : Nm)) : Int) == ((-1 - (j_241 : Nat)) : Int))) (by kernel_rfl) (congrArg Value.bool (beq_iff_eq.2 (by first | exact told_last3 (by assumption) (by omega) (by assumption) (by assumption) | exact told_pass (by assumption) (by assumption) (by assumption) | exact told_none3 (by assumption) (by omega) (by omega) (by omega) (by assumption) (by assumption))))) hS_247 ?_
              refine K.DW.q 9 (by kernel_rfl) rfl rfl (by kernel_rfl) rfl (fun w hS => K.QR.k (v := .bool true) (by kernel_rfl)) hS_247 ?_
              refine K.DW.q 10 (by kernel_rfl) rfl rfl (by kernel_rfl) rfl (fun w hS => K.QR.k (v := .bool true) (by kernel_rfl)) hS_247 ?_
              refine K.DW.done (by kernel_rfl) ?_
              refine K.thn_normal ?_
              refine K.KW.ret ?_
              refine ⟨.inr rfl, (.bool true), K.res1 rfl rfl, ?_⟩
              exact ⟨rfl, c_232⟩
            ·  -- one way
              have hS_248 : (fun w => K.Chg K.No w0 w ∧ (w.cell? ⟨r_2, 0, none⟩ = some (.int .i64 c.th)) ∧ (w.cell? ⟨r_2, 1, none⟩ = some (.int .i64 c.sl)) ∧ (w.cell? ⟨r_2, 2, none⟩ = some (.int .i64 c.lo)) ∧ (w.cell? ⟨r_2, 3, none⟩ = some (.int .i64 c.bu)) ∧ (w.cell? ⟨r_43, 0, none⟩ = some (.int .i64 ((5 : Int) + ((kd : Int) % 13 : Int)))) ∧ (w.cell? ⟨r_43, 1, none⟩ = some (.int .i64 0)) ∧ (w.cell? ⟨r_43, 2, none⟩ = some (.int .i64 x1))) w_228 := ⟨c_232, ((f_234).cell rfl), ((f_234).cell rfl), ((f_234).cell rfl), ((f_234).cell rfl), ((f_237).cell rfl), ((f_237).cell rfl), ((f_237).cell rfl)⟩
              refine ⟨hS_248, ?_⟩
              refine K.DW.q 8 (by kernel_rfl) rfl rfl (by kernel_rfl) (by kernel_rfl) (fun w hS => K.QR.nice (v := .bool (((toldS c (⟨(5 : Int) + ((kd : Int) % 13 : Int), 0, x1⟩ : Nm)) : Int) == ((lns c * 8) : Int))) (by kernel_rfl) (congrArg Value.bool (beq_iff_eq.2 (by first | exact told_last3 (by assumption) (by omega) (by assumption) (by assumption) | exact told_pass (by assumption) (by assumption) (by assumption) | exact told_none3 (by assumption) (by omega) (by omega) (by omega) (by assumption) (by assumption))))) hS_248 ?_
              refine K.DW.q 9 (by kernel_rfl) rfl rfl (by kernel_rfl) rfl (fun w hS => K.QR.k (v := .bool true) (by kernel_rfl)) hS_248 ?_
              refine K.DW.q 10 (by kernel_rfl) rfl rfl (by kernel_rfl) rfl (fun w hS => K.QR.k (v := .bool true) (by kernel_rfl)) hS_248 ?_
              refine K.DW.done (by kernel_rfl) ?_
              refine K.thn_normal ?_
              refine K.KW.ret ?_
              refine ⟨.inr rfl, (.bool true), K.res1 rfl rfl, ?_⟩
              exact ⟨rfl, c_232⟩
          ·  -- no
            refine K.RW.q rfl rfl (K.QR.nice (v := .bool (((5 : Int) + ((kd : Int) % 13 : Int) : Int) == (8 : Int))) (by kernel_rfl) (congrArg Value.bool (beq_eq_false_iff_ne.2 h_190))) ?_
            refine K.RW.nil ?_
            refine K.thn_normal ?_
            refine K.KW.ifF rfl ?_
            refine K.KW.skip ?_
            refine K.thn_normal ?_
            refine K.KW.seq ?_
            -- region 9 law.go:98
            refine K.KW.drawn (fun w => K.Chg K.No w0 w ∧ (w.cell? ⟨r_2, 0, none⟩ = some (.int .i64 c.th)) ∧ (w.cell? ⟨r_2, 1, none⟩ = some (.int .i64 c.sl)) ∧ (w.cell? ⟨r_2, 2, none⟩ = some (.int .i64 c.lo)) ∧ (w.cell? ⟨r_2, 3, none⟩ = some (.int .i64 c.bu)) ∧ (w.cell? ⟨r_43, 0, none⟩ = some (.int .i64 ((5 : Int) + ((kd : Int) % 13 : Int)))) ∧ (w.cell? ⟨r_43, 1, none⟩ = some (.int .i64 0)) ∧ (w.cell? ⟨r_43, 2, none⟩ = some (.int .i64 0))) (by kernel_rfl) ?_
            intro w_249 e_250 hs_251
            have c_253 := c_185.no e_250
            have z_254 := c_253.size
            have f_255 := f_187.no e_250
            have f_256 := f_188.no e_250
            have f_257 := f_189.no e_250
            have f_258 := b_184.no e_250
            have hS_252 : (fun w => K.Chg K.No w0 w ∧ (w.cell? ⟨r_2, 0, none⟩ = some (.int .i64 c.th)) ∧ (w.cell? ⟨r_2, 1, none⟩ = some (.int .i64 c.sl)) ∧ (w.cell? ⟨r_2, 2, none⟩ = some (.int .i64 c.lo)) ∧ (w.cell? ⟨r_2, 3, none⟩ = some (.int .i64 c.bu)) ∧ (w.cell? ⟨r_43, 0, none⟩ = some (.int .i64 ((5 : Int) + ((kd : Int) % 13 : Int)))) ∧ (w.cell? ⟨r_43, 1, none⟩ = some (.int .i64 0)) ∧ (w.cell? ⟨r_43, 2, none⟩ = some (.int .i64 0))) w_249 := ⟨c_253, ((f_255).cell rfl), ((f_255).cell rfl), ((f_255).cell rfl), ((f_255).cell rfl), ((f_258).cell rfl), ((f_258).cell rfl), ((f_258).cell rfl)⟩
            refine K.DW.l 0 rfl (by kernel_rfl) rfl (K.OW.call rfl [] rfl rfl (by kernel_rfl) (awake06_ok _) ?_)
            rintro _ w_260 ⟨rfl, c_259⟩
            have c_261 := c_253.no c_259
            have z_262 := c_261.size
            have f_263 := f_255.no c_259
            have f_264 := f_256.no c_259
            have f_265 := f_257.no c_259
            have f_266 := f_258.no c_259
            have hS_267 : (fun w => K.Chg K.No w0 w ∧ (w.cell? ⟨r_2, 0, none⟩ = some (.int .i64 c.th)) ∧ (w.cell? ⟨r_2, 1, none⟩ = some (.int .i64 c.sl)) ∧ (w.cell? ⟨r_2, 2, none⟩ = some (.int .i64 c.lo)) ∧ (w.cell? ⟨r_2, 3, none⟩ = some (.int .i64 c.bu)) ∧ (w.cell? ⟨r_43, 0, none⟩ = some (.int .i64 ((5 : Int) + ((kd : Int) % 13 : Int)))) ∧ (w.cell? ⟨r_43, 1, none⟩ = some (.int .i64 0)) ∧ (w.cell? ⟨r_43, 2, none⟩ = some (.int .i64 0))) w_260 := ⟨c_261, ((f_263).cell rfl), ((f_263).cell rfl), ((f_263).cell rfl), ((f_263).cell rfl), ((f_266).cell rfl), ((f_266).cell rfl), ((f_266).cell rfl)⟩
            refine ⟨hS_267, ?_⟩
            refine K.DW.q 1 (by kernel_rfl) rfl rfl (by kernel_rfl) rfl (fun w hS => K.QR.k (v := .bool true) (by kernel_rfl)) hS_267 ?_
            refine K.DW.q 2 (by kernel_rfl) rfl rfl (by kernel_rfl) (by kernel_rfl) (fun w hS => K.QR.k (v := .pointer (some ⟨b_20, 0, none⟩)) (by kernel_rfl)) hS_267 ?_
            refine K.DW.q 3 (by kernel_rfl) rfl rfl (by kernel_rfl) (by kernel_rfl) (fun w hS => K.QR.ldN [.int .i64 ((5 : Int) + ((kd : Int) % 13 : Int)), .int .i64 0, .int .i64 0] rfl rfl (by kernel_rfl) (by kernel_rfl) (K.cells (K.cl (hS.2.2.2.2.2.1) (K.cl (hS.2.2.2.2.2.2.1) (K.cl (hS.2.2.2.2.2.2.2) K.cl0))))) hS_267 ?_
            refine K.DW.q 5 (by kernel_rfl) rfl rfl (by kernel_rfl) (by kernel_rfl) (fun w hS => K.QR.ldN [.int .i64 c.th, .int .i64 c.sl, .int .i64 c.lo, .int .i64 c.bu] rfl rfl (by kernel_rfl) (by kernel_rfl) (K.cells (K.cl (hS.2.1) (K.cl (hS.2.2.1) (K.cl (hS.2.2.2.1) (K.cl (hS.2.2.2.2.1) K.cl0)))))) hS_267 ?_
            refine K.DW.q 6 (by kernel_rfl) rfl rfl (by kernel_rfl) (by kernel_rfl) (fun w hS => K.QR.ldN [.int .i64 ((5 : Int) + ((kd : Int) % 13 : Int)), .int .i64 0, .int .i64 0] rfl rfl (by kernel_rfl) (by kernel_rfl) (K.cells (K.cl (hS.2.2.2.2.2.1) (K.cl (hS.2.2.2.2.2.2.1) (K.cl (hS.2.2.2.2.2.2.2) K.cl0))))) hS_267 ?_
            refine K.DW.l 4 rfl (by kernel_rfl) (by kernel_rfl) (K.OW.call rfl [.pointer (some ⟨b_20, 0, none⟩), .agg #[.int .i64 ((5 : Int) + ((kd : Int) % 13 : Int)), .int .i64 0, .int .i64 0]] rfl rfl (by kernel_rfl) (told_ok _ c (⟨(5 : Int) + ((kd : Int) % 13 : Int), 0, 0⟩ : Nm) _ (by assumption) f_265) ?_)
            rintro _ w_269 ⟨rfl, c_268⟩
            have c_270 := c_261.no c_268
            have z_271 := c_270.size
            have f_272 := f_263.no c_268
            have f_273 := f_264.no c_268
            have f_274 := f_265.no c_268
            have f_275 := f_266.no c_268
            have hS_276 : (fun w => K.Chg K.No w0 w ∧ (w.cell? ⟨r_2, 0, none⟩ = some (.int .i64 c.th)) ∧ (w.cell? ⟨r_2, 1, none⟩ = some (.int .i64 c.sl)) ∧ (w.cell? ⟨r_2, 2, none⟩ = some (.int .i64 c.lo)) ∧ (w.cell? ⟨r_2, 3, none⟩ = some (.int .i64 c.bu)) ∧ (w.cell? ⟨r_43, 0, none⟩ = some (.int .i64 ((5 : Int) + ((kd : Int) % 13 : Int)))) ∧ (w.cell? ⟨r_43, 1, none⟩ = some (.int .i64 0)) ∧ (w.cell? ⟨r_43, 2, none⟩ = some (.int .i64 0))) w_269 := ⟨c_270, ((f_272).cell rfl), ((f_272).cell rfl), ((f_272).cell rfl), ((f_272).cell rfl), ((f_275).cell rfl), ((f_275).cell rfl), ((f_275).cell rfl)⟩
            refine ⟨hS_276, ?_⟩
            refine K.DW.l 7 rfl (by kernel_rfl) (by kernel_rfl) (K.OW.call rfl [.agg #[.int .i64 c.th, .int .i64 c.sl, .int .i64 c.lo, .int .i64 c.bu], .agg #[.int .i64 ((5 : Int) + ((kd : Int) % 13 : Int)), .int .i64 0, .int .i64 0]] rfl rfl (by kernel_rfl) (at_ok c (⟨(5 : Int) + ((kd : Int) % 13 : Int), 0, 0⟩ : Nm) _ (by assumption)) ?_)
            rintro v_278 w_277 ⟨c_279, h_280⟩
            have c_281 := c_270.no c_279
            have z_282 := c_281.size
            have f_283 := f_272.no c_279
            have f_284 := f_273.no c_279
            have f_285 := f_274.no c_279
            have f_286 := f_275.no c_279
            rcases h_280 with ⟨j_287, rfl, g_288, h_289⟩ | ⟨j_290, rfl, g_291, h_292⟩ | ⟨rfl, g_293, h_294⟩
            ·  -- one way
              have hS_295 : (fun w => K.Chg K.No w0 w ∧ (w.cell? ⟨r_2, 0, none⟩ = some (.int .i64 c.th)) ∧ (w.cell? ⟨r_2, 1, none⟩ = some (.int .i64 c.sl)) ∧ (w.cell? ⟨r_2, 2, none⟩ = some (.int .i64 c.lo)) ∧ (w.cell? ⟨r_2, 3, none⟩ = some (.int .i64 c.bu)) ∧ (w.cell? ⟨r_43, 0, none⟩ = some (.int .i64 ((5 : Int) + ((kd : Int) % 13 : Int)))) ∧ (w.cell? ⟨r_43, 1, none⟩ = some (.int .i64 0)) ∧ (w.cell? ⟨r_43, 2, none⟩ = some (.int .i64 0))) w_277 := ⟨c_281, ((f_283).cell rfl), ((f_283).cell rfl), ((f_283).cell rfl), ((f_283).cell rfl), ((f_286).cell rfl), ((f_286).cell rfl), ((f_286).cell rfl)⟩
              refine ⟨hS_295, ?_⟩
              refine K.DW.q 8 (by kernel_rfl) rfl rfl (by kernel_rfl) (by kernel_rfl) (fun w hS => K.QR.nice (v := .bool (((toldS c (⟨(5 : Int) + ((kd : Int) % 13 : Int), 0, 0⟩ : Nm)) : Int) == (((j_287 : Nat) : Int) : Int))) (by kernel_rfl) (congrArg Value.bool (beq_iff_eq.2 (by first | exact told_last3 (by assumption) (by omega) (by assumption) (by assumption) | exact told_pass (by assumption) (by assumption) (by assumption) | exact told_none3 (by assumption) (by omega) (by omega) (by omega) (by assumption) (by assumption))))) hS_295 ?_
              refine K.DW.q 9 (by kernel_rfl) rfl rfl (by kernel_rfl) rfl (fun w hS => K.QR.k (v := .bool true) (by kernel_rfl)) hS_295 ?_
              refine K.DW.q 10 (by kernel_rfl) rfl rfl (by kernel_rfl) rfl (fun w hS => K.QR.k (v := .bool true) (by kernel_rfl)) hS_295 ?_
              refine K.DW.done (by kernel_rfl) ?_
              refine K.thn_normal ?_
              refine K.KW.ret ?_
              refine ⟨.inr rfl, (.bool true), K.res1 rfl rfl, ?_⟩
              exact ⟨rfl, c_281⟩
            ·  -- one way
              have hS_296 : (fun w => K.Chg K.No w0 w ∧ (w.cell? ⟨r_2, 0, none⟩ = some (.int .i64 c.th)) ∧ (w.cell? ⟨r_2, 1, none⟩ = some (.int .i64 c.sl)) ∧ (w.cell? ⟨r_2, 2, none⟩ = some (.int .i64 c.lo)) ∧ (w.cell? ⟨r_2, 3, none⟩ = some (.int .i64 c.bu)) ∧ (w.cell? ⟨r_43, 0, none⟩ = some (.int .i64 ((5 : Int) + ((kd : Int) % 13 : Int)))) ∧ (w.cell? ⟨r_43, 1, none⟩ = some (.int .i64 0)) ∧ (w.cell? ⟨r_43, 2, none⟩ = some (.int .i64 0))) w_277 := ⟨c_281, ((f_283).cell rfl), ((f_283).cell rfl), ((f_283).cell rfl), ((f_283).cell rfl), ((f_286).cell rfl), ((f_286).cell rfl), ((f_286).cell rfl)⟩
              refine ⟨hS_296, ?_⟩
              refine K.DW.q 8 (by kernel_rfl) rfl rfl (by kernel_rfl) (by kernel_rfl) (fun w hS => K.QR.nice (v := .bool (((toldS c (⟨(5 : Int) + ((kd : Int) % 13 : Int), 0, 0⟩ : Nm)) : Int) == ((-1 - (j_290 : Nat)) : Int))) (by kernel_rfl) (congrArg Value.bool (beq_iff_eq.2 (by first | exact told_last3 (by assumption) (by omega) (by assumption) (by assumption) | exact told_pass (by assumption) (by assumption) (by assumption) | exact told_none3 (by assumption) (by omega) (by omega) (by omega) (by assumption) (by assumption))))) hS_296 ?_
              refine K.DW.q 9 (by kernel_rfl) rfl rfl (by kernel_rfl) rfl (fun w hS => K.QR.k (v := .bool true) (by kernel_rfl)) hS_296 ?_
              refine K.DW.q 10 (by kernel_rfl) rfl rfl (by kernel_rfl) rfl (fun w hS => K.QR.k (v := .bool true) (by kernel_rfl)) hS_296 ?_
              refine K.DW.done (by kernel_rfl) ?_
              refine K.thn_normal ?_
              refine K.KW.ret ?_
              refine ⟨.inr rfl, (.bool true), K.res1 rfl rfl, ?_⟩
              exact ⟨rfl, c_281⟩
            ·  -- one way
              have hS_297 : (fun w => K.Chg K.No w0 w ∧ (w.cell? ⟨r_2, 0, none⟩ = some (.int .i64 c.th)) ∧ (w.cell? ⟨r_2, 1, none⟩ = some (.int .i64 c.sl)) ∧ (w.cell? ⟨r_2, 2, none⟩ = some (.int .i64 c.lo)) ∧ (w.cell? ⟨r_2, 3, none⟩ = some (.int .i64 c.bu)) ∧ (w.cell? ⟨r_43, 0, none⟩ = some (.int .i64 ((5 : Int) + ((kd : Int) % 13 : Int)))) ∧ (w.cell? ⟨r_43, 1, none⟩ = some (.int .i64 0)) ∧ (w.cell? ⟨r_43, 2, none⟩ = some (.int .i64 0))) w_277 := ⟨c_281, ((f_283).cell rfl), ((f_283).cell rfl), ((f_283).cell rfl), ((f_283).cell rfl), ((f_286).cell rfl), ((f_286).cell rfl), ((f_286).cell rfl)⟩
              refine ⟨hS_297, ?_⟩
              refine K.DW.q 8 (by kernel_rfl) rfl rfl (by kernel_rfl) (by kernel_rfl) (fun w hS => K.QR.nice (v := .bool (((toldS c (⟨(5 : Int) + ((kd : Int) % 13 : Int), 0, 0⟩ : Nm)) : Int) == ((lns c * 8) : Int))) (by kernel_rfl) (congrArg Value.bool (beq_iff_eq.2 (by first | exact told_last3 (by assumption) (by omega) (by assumption) (by assumption) | exact told_pass (by assumption) (by assumption) (by assumption) | exact told_none3 (by assumption) (by omega) (by omega) (by omega) (by assumption) (by assumption))))) hS_297 ?_
              refine K.DW.q 9 (by kernel_rfl) rfl rfl (by kernel_rfl) rfl (fun w hS => K.QR.k (v := .bool true) (by kernel_rfl)) hS_297 ?_
              refine K.DW.q 10 (by kernel_rfl) rfl rfl (by kernel_rfl) rfl (fun w hS => K.QR.k (v := .bool true) (by kernel_rfl)) hS_297 ?_
              refine K.DW.done (by kernel_rfl) ?_
              refine K.thn_normal ?_
              refine K.KW.ret ?_
              refine ⟨.inr rfl, (.bool true), K.res1 rfl rfl, ?_⟩
              exact ⟨rfl, c_281⟩
        ·  -- no
          refine K.RW.q rfl (by kernel_rfl) (K.QR.nice (v := .bool (((5 : Int) + ((kd : Int) % 13 : Int) : Int) == (15 : Int))) (by kernel_rfl) (congrArg Value.bool (beq_eq_false_iff_ne.2 h_180))) ?_
          refine K.RW.q rfl rfl (K.QR.k (v := .bool false) (by kernel_rfl)) ?_
          refine K.RW.nil ?_
          refine K.thn_normal ?_
          refine K.KW.ifF rfl ?_
          refine K.KW.skip ?_
          refine K.thn_normal ?_
          refine K.KW.seq ?_
          refine K.KW.seq ?_
          -- region 7 law.go:95
          refine K.KW.region ?_
          refine K.RW.q rfl rfl (K.QR.k (v := .pointer (some ⟨r_43, 0, none⟩)) (by kernel_rfl)) ?_
          refine K.RW.q rfl rfl (K.QR.ld1 (v := .int .i64 ((5 : Int) + ((kd : Int) % 13 : Int))) rfl rfl (by kernel_rfl) (b_56.cell rfl)) ?_
          by_cases h_298 : ((5 : Int) + ((kd : Int) % 13 : Int) : Int) = (8 : Int)
          ·  -- yes
            refine K.RW.q rfl rfl (K.QR.nice (v := .bool (((5 : Int) + ((kd : Int) % 13 : Int) : Int) == (8 : Int))) (by kernel_rfl) (congrArg Value.bool (beq_iff_eq.2 h_298))) ?_
            refine K.RW.nil ?_
            refine K.thn_normal ?_
            refine K.KW.ifT rfl ?_
            -- region 8 law.go:96
            refine K.KW.region ?_
            refine K.RW.q rfl rfl (K.QR.ixA 1 1 rfl rfl rfl Try.underlying79 (by kernel_rfl) (by omega) (by first | rfl | simp)) ?_
            refine K.RW.q rfl rfl (K.QR.ld1 (v := .int .i64 x1) rfl rfl (by kernel_rfl) (f_60.cell rfl)) ?_
            refine K.RW.q rfl rfl (K.QR.k (v := .pointer (some ⟨r_43, 2, none⟩)) (by kernel_rfl)) ?_
            refine K.RW.l rfl (K.OW.st [.int .i64 x1] [.int .i64 ((5 : Int) + ((kd : Int) % 13 : Int)), .int .i64 x0, .int .i64 x1] rfl rfl rfl (by kernel_rfl) b_56 rfl (K.one_cells (by rfl)) rfl rfl ?_) 
            intro w_299 e_300 hs_301 b_302
            have c_303 := c_57.own e_300 (by omega)
            have z_304 := c_303.size
            have f_305 := f_59.chg e_300 (f_59.ne b_56 (by decide))
            have f_306 := f_60.chg e_300 (f_60.ne b_56 (by decide))
            have f_307 := f_61.chg e_300 (f_61.ne b_56 (by decide))
            refine K.RW.nil ?_
            refine K.thn_normal ?_
            refine K.KW.seq ?_
            -- region 9 law.go:98
            refine K.KW.drawn (fun w => K.Chg K.No w0 w ∧ (w.cell? ⟨r_2, 0, none⟩ = some (.int .i64 c.th)) ∧ (w.cell? ⟨r_2, 1, none⟩ = some (.int .i64 c.sl)) ∧ (w.cell? ⟨r_2, 2, none⟩ = some (.int .i64 c.lo)) ∧ (w.cell? ⟨r_2, 3, none⟩ = some (.int .i64 c.bu)) ∧ (w.cell? ⟨r_43, 0, none⟩ = some (.int .i64 ((5 : Int) + ((kd : Int) % 13 : Int)))) ∧ (w.cell? ⟨r_43, 1, none⟩ = some (.int .i64 x0)) ∧ (w.cell? ⟨r_43, 2, none⟩ = some (.int .i64 x1))) (by kernel_rfl) ?_
            intro w_308 e_309 hs_310
            have c_312 := c_303.no e_309
            have z_313 := c_312.size
            have f_314 := f_305.no e_309
            have f_315 := f_306.no e_309
            have f_316 := f_307.no e_309
            have f_317 := b_302.no e_309
            have hS_311 : (fun w => K.Chg K.No w0 w ∧ (w.cell? ⟨r_2, 0, none⟩ = some (.int .i64 c.th)) ∧ (w.cell? ⟨r_2, 1, none⟩ = some (.int .i64 c.sl)) ∧ (w.cell? ⟨r_2, 2, none⟩ = some (.int .i64 c.lo)) ∧ (w.cell? ⟨r_2, 3, none⟩ = some (.int .i64 c.bu)) ∧ (w.cell? ⟨r_43, 0, none⟩ = some (.int .i64 ((5 : Int) + ((kd : Int) % 13 : Int)))) ∧ (w.cell? ⟨r_43, 1, none⟩ = some (.int .i64 x0)) ∧ (w.cell? ⟨r_43, 2, none⟩ = some (.int .i64 x1))) w_308 := ⟨c_312, ((f_314).cell rfl), ((f_314).cell rfl), ((f_314).cell rfl), ((f_314).cell rfl), ((f_317).cell rfl), ((f_317).cell rfl), ((f_317).cell rfl)⟩
            refine K.DW.l 0 rfl (by kernel_rfl) rfl (K.OW.call rfl [] rfl rfl (by kernel_rfl) (awake06_ok _) ?_)
            rintro _ w_319 ⟨rfl, c_318⟩
            have c_320 := c_312.no c_318
            have z_321 := c_320.size
            have f_322 := f_314.no c_318
            have f_323 := f_315.no c_318
            have f_324 := f_316.no c_318
            have f_325 := f_317.no c_318
            have hS_326 : (fun w => K.Chg K.No w0 w ∧ (w.cell? ⟨r_2, 0, none⟩ = some (.int .i64 c.th)) ∧ (w.cell? ⟨r_2, 1, none⟩ = some (.int .i64 c.sl)) ∧ (w.cell? ⟨r_2, 2, none⟩ = some (.int .i64 c.lo)) ∧ (w.cell? ⟨r_2, 3, none⟩ = some (.int .i64 c.bu)) ∧ (w.cell? ⟨r_43, 0, none⟩ = some (.int .i64 ((5 : Int) + ((kd : Int) % 13 : Int)))) ∧ (w.cell? ⟨r_43, 1, none⟩ = some (.int .i64 x0)) ∧ (w.cell? ⟨r_43, 2, none⟩ = some (.int .i64 x1))) w_319 := ⟨c_320, ((f_322).cell rfl), ((f_322).cell rfl), ((f_322).cell rfl), ((f_322).cell rfl), ((f_325).cell rfl), ((f_325).cell rfl), ((f_325).cell rfl)⟩
            refine ⟨hS_326, ?_⟩
            refine K.DW.q 1 (by kernel_rfl) rfl rfl (by kernel_rfl) rfl (fun w hS => K.QR.k (v := .bool true) (by kernel_rfl)) hS_326 ?_
            refine K.DW.q 2 (by kernel_rfl) rfl rfl (by kernel_rfl) (by kernel_rfl) (fun w hS => K.QR.k (v := .pointer (some ⟨b_20, 0, none⟩)) (by kernel_rfl)) hS_326 ?_
            refine K.DW.q 3 (by kernel_rfl) rfl rfl (by kernel_rfl) (by kernel_rfl) (fun w hS => K.QR.ldN [.int .i64 ((5 : Int) + ((kd : Int) % 13 : Int)), .int .i64 x0, .int .i64 x1] rfl rfl (by kernel_rfl) (by kernel_rfl) (K.cells (K.cl (hS.2.2.2.2.2.1) (K.cl (hS.2.2.2.2.2.2.1) (K.cl (hS.2.2.2.2.2.2.2) K.cl0))))) hS_326 ?_
            refine K.DW.q 5 (by kernel_rfl) rfl rfl (by kernel_rfl) (by kernel_rfl) (fun w hS => K.QR.ldN [.int .i64 c.th, .int .i64 c.sl, .int .i64 c.lo, .int .i64 c.bu] rfl rfl (by kernel_rfl) (by kernel_rfl) (K.cells (K.cl (hS.2.1) (K.cl (hS.2.2.1) (K.cl (hS.2.2.2.1) (K.cl (hS.2.2.2.2.1) K.cl0)))))) hS_326 ?_
            refine K.DW.q 6 (by kernel_rfl) rfl rfl (by kernel_rfl) (by kernel_rfl) (fun w hS => K.QR.ldN [.int .i64 ((5 : Int) + ((kd : Int) % 13 : Int)), .int .i64 x0, .int .i64 x1] rfl rfl (by kernel_rfl) (by kernel_rfl) (K.cells (K.cl (hS.2.2.2.2.2.1) (K.cl (hS.2.2.2.2.2.2.1) (K.cl (hS.2.2.2.2.2.2.2) K.cl0))))) hS_326 ?_
            refine K.DW.l 4 rfl (by kernel_rfl) (by kernel_rfl) (K.OW.call rfl [.pointer (some ⟨b_20, 0, none⟩), .agg #[.int .i64 ((5 : Int) + ((kd : Int) % 13 : Int)), .int .i64 x0, .int .i64 x1]] rfl rfl (by kernel_rfl) (told_ok _ c (⟨(5 : Int) + ((kd : Int) % 13 : Int), x0, x1⟩ : Nm) _ (by assumption) f_324) ?_)
            rintro _ w_328 ⟨rfl, c_327⟩
            have c_329 := c_320.no c_327
            have z_330 := c_329.size
            have f_331 := f_322.no c_327
            have f_332 := f_323.no c_327
            have f_333 := f_324.no c_327
            have f_334 := f_325.no c_327
            have hS_335 : (fun w => K.Chg K.No w0 w ∧ (w.cell? ⟨r_2, 0, none⟩ = some (.int .i64 c.th)) ∧ (w.cell? ⟨r_2, 1, none⟩ = some (.int .i64 c.sl)) ∧ (w.cell? ⟨r_2, 2, none⟩ = some (.int .i64 c.lo)) ∧ (w.cell? ⟨r_2, 3, none⟩ = some (.int .i64 c.bu)) ∧ (w.cell? ⟨r_43, 0, none⟩ = some (.int .i64 ((5 : Int) + ((kd : Int) % 13 : Int)))) ∧ (w.cell? ⟨r_43, 1, none⟩ = some (.int .i64 x0)) ∧ (w.cell? ⟨r_43, 2, none⟩ = some (.int .i64 x1))) w_328 := ⟨c_329, ((f_331).cell rfl), ((f_331).cell rfl), ((f_331).cell rfl), ((f_331).cell rfl), ((f_334).cell rfl), ((f_334).cell rfl), ((f_334).cell rfl)⟩
            refine ⟨hS_335, ?_⟩
            refine K.DW.l 7 rfl (by kernel_rfl) (by kernel_rfl) (K.OW.call rfl [.agg #[.int .i64 c.th, .int .i64 c.sl, .int .i64 c.lo, .int .i64 c.bu], .agg #[.int .i64 ((5 : Int) + ((kd : Int) % 13 : Int)), .int .i64 x0, .int .i64 x1]] rfl rfl (by kernel_rfl) (at_ok c (⟨(5 : Int) + ((kd : Int) % 13 : Int), x0, x1⟩ : Nm) _ (by assumption)) ?_)
            rintro v_337 w_336 ⟨c_338, h_339⟩
            have c_340 := c_329.no c_338
            have z_341 := c_340.size
            have f_342 := f_331.no c_338
            have f_343 := f_332.no c_338
            have f_344 := f_333.no c_338
            have f_345 := f_334.no c_338
            rcases h_339 with ⟨j_346, rfl, g_347, h_348⟩ | ⟨j_349, rfl, g_350, h_351⟩ | ⟨rfl, g_352, h_353⟩
            ·  -- one way
              have hS_354 : (fun w => K.Chg K.No w0 w ∧ (w.cell? ⟨r_2, 0, none⟩ = some (.int .i64 c.th)) ∧ (w.cell? ⟨r_2, 1, none⟩ = some (.int .i64 c.sl)) ∧ (w.cell? ⟨r_2, 2, none⟩ = some (.int .i64 c.lo)) ∧ (w.cell? ⟨r_2, 3, none⟩ = some (.int .i64 c.bu)) ∧ (w.cell? ⟨r_43, 0, none⟩ = some (.int .i64 ((5 : Int) + ((kd : Int) % 13 : Int)))) ∧ (w.cell? ⟨r_43, 1, none⟩ = some (.int .i64 x0)) ∧ (w.cell? ⟨r_43, 2, none⟩ = some (.int .i64 x1))) w_336 := ⟨c_340, ((f_342).cell rfl), ((f_342).cell rfl), ((f_342).cell rfl), ((f_342).cell rfl), ((f_345).cell rfl), ((f_345).cell rfl), ((f_345).cell rfl)⟩
              refine ⟨hS_354, ?_⟩
              refine K.DW.q 8 (by kernel_rfl) rfl rfl (by kernel_rfl) (by kernel_rfl) (fun w hS => K.QR.nice (v := .bool (((toldS c (⟨(5 : Int) + ((kd : Int) % 13 : Int), x0, x1⟩ : Nm)) : Int) == (((j_346 : Nat) : Int) : Int))) (by kernel_rfl) (congrArg Value.bool (beq_iff_eq.2 (by first | exact told_last3 (by assumption) (by omega) (by assumption) (by assumption) | exact told_pass (by assumption) (by assumption) (by assumption) | exact told_none3 (by assumption) (by omega) (by omega) (by omega) (by assumption) (by assumption))))) hS_354 ?_
              refine K.DW.q 9 (by kernel_rfl) rfl rfl (by kernel_rfl) rfl (fun w hS => K.QR.k (v := .bool true) (by kernel_rfl)) hS_354 ?_
              refine K.DW.q 10 (by kernel_rfl) rfl rfl (by kernel_rfl) rfl (fun w hS => K.QR.k (v := .bool true) (by kernel_rfl)) hS_354 ?_
              refine K.DW.done (by kernel_rfl) ?_
              refine K.thn_normal ?_
              refine K.KW.ret ?_
              refine ⟨.inr rfl, (.bool true), K.res1 rfl rfl, ?_⟩
              exact ⟨rfl, c_340⟩
            ·  -- one way
              have hS_355 : (fun w => K.Chg K.No w0 w ∧ (w.cell? ⟨r_2, 0, none⟩ = some (.int .i64 c.th)) ∧ (w.cell? ⟨r_2, 1, none⟩ = some (.int .i64 c.sl)) ∧ (w.cell? ⟨r_2, 2, none⟩ = some (.int .i64 c.lo)) ∧ (w.cell? ⟨r_2, 3, none⟩ = some (.int .i64 c.bu)) ∧ (w.cell? ⟨r_43, 0, none⟩ = some (.int .i64 ((5 : Int) + ((kd : Int) % 13 : Int)))) ∧ (w.cell? ⟨r_43, 1, none⟩ = some (.int .i64 x0)) ∧ (w.cell? ⟨r_43, 2, none⟩ = some (.int .i64 x1))) w_336 := ⟨c_340, ((f_342).cell rfl), ((f_342).cell rfl), ((f_342).cell rfl), ((f_342).cell rfl), ((f_345).cell rfl), ((f_345).cell rfl), ((f_345).cell rfl)⟩
              refine ⟨hS_355, ?_⟩
              refine K.DW.q 8 (by kernel_rfl) rfl rfl (by kernel_rfl) (by kernel_rfl) (fun w hS => K.QR.nice (v := .bool (((toldS c (⟨(5 : Int) + ((kd : Int) % 13 : Int), x0, x1⟩ : Nm)) : Int) == ((-1 - (j_349 : Nat)) : Int))) (by kernel_rfl) (congrArg Value.bool (beq_iff_eq.2 (by first | exact told_last3 (by assumption) (by omega) (by assumption) (by assumption) | exact told_pass (by assumption) (by assumption) (by assumption) | exact told_none3 (by assumption) (by omega) (by omega) (by omega) (by assumption) (by assumption))))) hS_355 ?_
              refine K.DW.q 9 (by kernel_rfl) rfl rfl (by kernel_rfl) rfl (fun w hS => K.QR.k (v := .bool true) (by kernel_rfl)) hS_355 ?_
              refine K.DW.q 10 (by kernel_rfl) rfl rfl (by kernel_rfl) rfl (fun w hS => K.QR.k (v := .bool true) (by kernel_rfl)) hS_355 ?_
              refine K.DW.done (by kernel_rfl) ?_
              refine K.thn_normal ?_
              refine K.KW.ret ?_
              refine ⟨.inr rfl, (.bool true), K.res1 rfl rfl, ?_⟩
              exact ⟨rfl, c_340⟩
            ·  -- one way
              have hS_356 : (fun w => K.Chg K.No w0 w ∧ (w.cell? ⟨r_2, 0, none⟩ = some (.int .i64 c.th)) ∧ (w.cell? ⟨r_2, 1, none⟩ = some (.int .i64 c.sl)) ∧ (w.cell? ⟨r_2, 2, none⟩ = some (.int .i64 c.lo)) ∧ (w.cell? ⟨r_2, 3, none⟩ = some (.int .i64 c.bu)) ∧ (w.cell? ⟨r_43, 0, none⟩ = some (.int .i64 ((5 : Int) + ((kd : Int) % 13 : Int)))) ∧ (w.cell? ⟨r_43, 1, none⟩ = some (.int .i64 x0)) ∧ (w.cell? ⟨r_43, 2, none⟩ = some (.int .i64 x1))) w_336 := ⟨c_340, ((f_342).cell rfl), ((f_342).cell rfl), ((f_342).cell rfl), ((f_342).cell rfl), ((f_345).cell rfl), ((f_345).cell rfl), ((f_345).cell rfl)⟩
              refine ⟨hS_356, ?_⟩
              refine K.DW.q 8 (by kernel_rfl) rfl rfl (by kernel_rfl) (by kernel_rfl) (fun w hS => K.QR.nice (v := .bool (((toldS c (⟨(5 : Int) + ((kd : Int) % 13 : Int), x0, x1⟩ : Nm)) : Int) == ((lns c * 8) : Int))) (by kernel_rfl) (congrArg Value.bool (beq_iff_eq.2 (by first | exact told_last3 (by assumption) (by omega) (by assumption) (by assumption) | exact told_pass (by assumption) (by assumption) (by assumption) | exact told_none3 (by assumption) (by omega) (by omega) (by omega) (by assumption) (by assumption))))) hS_356 ?_
              refine K.DW.q 9 (by kernel_rfl) rfl rfl (by kernel_rfl) rfl (fun w hS => K.QR.k (v := .bool true) (by kernel_rfl)) hS_356 ?_
              refine K.DW.q 10 (by kernel_rfl) rfl rfl (by kernel_rfl) rfl (fun w hS => K.QR.k (v := .bool true) (by kernel_rfl)) hS_356 ?_
              refine K.DW.done (by kernel_rfl) ?_
              refine K.thn_normal ?_
              refine K.KW.ret ?_
              refine ⟨.inr rfl, (.bool true), K.res1 rfl rfl, ?_⟩
              exact ⟨rfl, c_340⟩
          ·  -- no
            refine K.RW.q rfl rfl (K.QR.nice (v := .bool (((5 : Int) + ((kd : Int) % 13 : Int) : Int) == (8 : Int))) (by kernel_rfl) (congrArg Value.bool (beq_eq_false_iff_ne.2 h_298))) ?_
            refine K.RW.nil ?_
            refine K.thn_normal ?_
            refine K.KW.ifF rfl ?_
            refine K.KW.skip ?_
            refine K.thn_normal ?_
            refine K.KW.seq ?_
            -- region 9 law.go:98
            refine K.KW.drawn (fun w => K.Chg K.No w0 w ∧ (w.cell? ⟨r_2, 0, none⟩ = some (.int .i64 c.th)) ∧ (w.cell? ⟨r_2, 1, none⟩ = some (.int .i64 c.sl)) ∧ (w.cell? ⟨r_2, 2, none⟩ = some (.int .i64 c.lo)) ∧ (w.cell? ⟨r_2, 3, none⟩ = some (.int .i64 c.bu)) ∧ (w.cell? ⟨r_43, 0, none⟩ = some (.int .i64 ((5 : Int) + ((kd : Int) % 13 : Int)))) ∧ (w.cell? ⟨r_43, 1, none⟩ = some (.int .i64 x0)) ∧ (w.cell? ⟨r_43, 2, none⟩ = some (.int .i64 0))) (by kernel_rfl) ?_
            intro w_357 e_358 hs_359
            have c_361 := c_57.no e_358
            have z_362 := c_361.size
            have f_363 := f_59.no e_358
            have f_364 := f_60.no e_358
            have f_365 := f_61.no e_358
            have f_366 := b_56.no e_358
            have hS_360 : (fun w => K.Chg K.No w0 w ∧ (w.cell? ⟨r_2, 0, none⟩ = some (.int .i64 c.th)) ∧ (w.cell? ⟨r_2, 1, none⟩ = some (.int .i64 c.sl)) ∧ (w.cell? ⟨r_2, 2, none⟩ = some (.int .i64 c.lo)) ∧ (w.cell? ⟨r_2, 3, none⟩ = some (.int .i64 c.bu)) ∧ (w.cell? ⟨r_43, 0, none⟩ = some (.int .i64 ((5 : Int) + ((kd : Int) % 13 : Int)))) ∧ (w.cell? ⟨r_43, 1, none⟩ = some (.int .i64 x0)) ∧ (w.cell? ⟨r_43, 2, none⟩ = some (.int .i64 0))) w_357 := ⟨c_361, ((f_363).cell rfl), ((f_363).cell rfl), ((f_363).cell rfl), ((f_363).cell rfl), ((f_366).cell rfl), ((f_366).cell rfl), ((f_366).cell rfl)⟩
            refine K.DW.l 0 rfl (by kernel_rfl) rfl (K.OW.call rfl [] rfl rfl (by kernel_rfl) (awake06_ok _) ?_)
            rintro _ w_368 ⟨rfl, c_367⟩
            have c_369 := c_361.no c_367
            have z_370 := c_369.size
            have f_371 := f_363.no c_367
            have f_372 := f_364.no c_367
            have f_373 := f_365.no c_367
            have f_374 := f_366.no c_367
            have hS_375 : (fun w => K.Chg K.No w0 w ∧ (w.cell? ⟨r_2, 0, none⟩ = some (.int .i64 c.th)) ∧ (w.cell? ⟨r_2, 1, none⟩ = some (.int .i64 c.sl)) ∧ (w.cell? ⟨r_2, 2, none⟩ = some (.int .i64 c.lo)) ∧ (w.cell? ⟨r_2, 3, none⟩ = some (.int .i64 c.bu)) ∧ (w.cell? ⟨r_43, 0, none⟩ = some (.int .i64 ((5 : Int) + ((kd : Int) % 13 : Int)))) ∧ (w.cell? ⟨r_43, 1, none⟩ = some (.int .i64 x0)) ∧ (w.cell? ⟨r_43, 2, none⟩ = some (.int .i64 0))) w_368 := ⟨c_369, ((f_371).cell rfl), ((f_371).cell rfl), ((f_371).cell rfl), ((f_371).cell rfl), ((f_374).cell rfl), ((f_374).cell rfl), ((f_374).cell rfl)⟩
            refine ⟨hS_375, ?_⟩
            refine K.DW.q 1 (by kernel_rfl) rfl rfl (by kernel_rfl) rfl (fun w hS => K.QR.k (v := .bool true) (by kernel_rfl)) hS_375 ?_
            refine K.DW.q 2 (by kernel_rfl) rfl rfl (by kernel_rfl) (by kernel_rfl) (fun w hS => K.QR.k (v := .pointer (some ⟨b_20, 0, none⟩)) (by kernel_rfl)) hS_375 ?_
            refine K.DW.q 3 (by kernel_rfl) rfl rfl (by kernel_rfl) (by kernel_rfl) (fun w hS => K.QR.ldN [.int .i64 ((5 : Int) + ((kd : Int) % 13 : Int)), .int .i64 x0, .int .i64 0] rfl rfl (by kernel_rfl) (by kernel_rfl) (K.cells (K.cl (hS.2.2.2.2.2.1) (K.cl (hS.2.2.2.2.2.2.1) (K.cl (hS.2.2.2.2.2.2.2) K.cl0))))) hS_375 ?_
            refine K.DW.q 5 (by kernel_rfl) rfl rfl (by kernel_rfl) (by kernel_rfl) (fun w hS => K.QR.ldN [.int .i64 c.th, .int .i64 c.sl, .int .i64 c.lo, .int .i64 c.bu] rfl rfl (by kernel_rfl) (by kernel_rfl) (K.cells (K.cl (hS.2.1) (K.cl (hS.2.2.1) (K.cl (hS.2.2.2.1) (K.cl (hS.2.2.2.2.1) K.cl0)))))) hS_375 ?_
            refine K.DW.q 6 (by kernel_rfl) rfl rfl (by kernel_rfl) (by kernel_rfl) (fun w hS => K.QR.ldN [.int .i64 ((5 : Int) + ((kd : Int) % 13 : Int)), .int .i64 x0, .int .i64 0] rfl rfl (by kernel_rfl) (by kernel_rfl) (K.cells (K.cl (hS.2.2.2.2.2.1) (K.cl (hS.2.2.2.2.2.2.1) (K.cl (hS.2.2.2.2.2.2.2) K.cl0))))) hS_375 ?_
            refine K.DW.l 4 rfl (by kernel_rfl) (by kernel_rfl) (K.OW.call rfl [.pointer (some ⟨b_20, 0, none⟩), .agg #[.int .i64 ((5 : Int) + ((kd : Int) % 13 : Int)), .int .i64 x0, .int .i64 0]] rfl rfl (by kernel_rfl) (told_ok _ c (⟨(5 : Int) + ((kd : Int) % 13 : Int), x0, 0⟩ : Nm) _ (by assumption) f_373) ?_)
            rintro _ w_377 ⟨rfl, c_376⟩
            have c_378 := c_369.no c_376
            have z_379 := c_378.size
            have f_380 := f_371.no c_376
            have f_381 := f_372.no c_376
            have f_382 := f_373.no c_376
            have f_383 := f_374.no c_376
            have hS_384 : (fun w => K.Chg K.No w0 w ∧ (w.cell? ⟨r_2, 0, none⟩ = some (.int .i64 c.th)) ∧ (w.cell? ⟨r_2, 1, none⟩ = some (.int .i64 c.sl)) ∧ (w.cell? ⟨r_2, 2, none⟩ = some (.int .i64 c.lo)) ∧ (w.cell? ⟨r_2, 3, none⟩ = some (.int .i64 c.bu)) ∧ (w.cell? ⟨r_43, 0, none⟩ = some (.int .i64 ((5 : Int) + ((kd : Int) % 13 : Int)))) ∧ (w.cell? ⟨r_43, 1, none⟩ = some (.int .i64 x0)) ∧ (w.cell? ⟨r_43, 2, none⟩ = some (.int .i64 0))) w_377 := ⟨c_378, ((f_380).cell rfl), ((f_380).cell rfl), ((f_380).cell rfl), ((f_380).cell rfl), ((f_383).cell rfl), ((f_383).cell rfl), ((f_383).cell rfl)⟩
            refine ⟨hS_384, ?_⟩
            refine K.DW.l 7 rfl (by kernel_rfl) (by kernel_rfl) (K.OW.call rfl [.agg #[.int .i64 c.th, .int .i64 c.sl, .int .i64 c.lo, .int .i64 c.bu], .agg #[.int .i64 ((5 : Int) + ((kd : Int) % 13 : Int)), .int .i64 x0, .int .i64 0]] rfl rfl (by kernel_rfl) (at_ok c (⟨(5 : Int) + ((kd : Int) % 13 : Int), x0, 0⟩ : Nm) _ (by assumption)) ?_)
            rintro v_386 w_385 ⟨c_387, h_388⟩
            have c_389 := c_378.no c_387
            have z_390 := c_389.size
            have f_391 := f_380.no c_387
            have f_392 := f_381.no c_387
            have f_393 := f_382.no c_387
            have f_394 := f_383.no c_387
            rcases h_388 with ⟨j_395, rfl, g_396, h_397⟩ | ⟨j_398, rfl, g_399, h_400⟩ | ⟨rfl, g_401, h_402⟩
            ·  -- one way
              have hS_403 : (fun w => K.Chg K.No w0 w ∧ (w.cell? ⟨r_2, 0, none⟩ = some (.int .i64 c.th)) ∧ (w.cell? ⟨r_2, 1, none⟩ = some (.int .i64 c.sl)) ∧ (w.cell? ⟨r_2, 2, none⟩ = some (.int .i64 c.lo)) ∧ (w.cell? ⟨r_2, 3, none⟩ = some (.int .i64 c.bu)) ∧ (w.cell? ⟨r_43, 0, none⟩ = some (.int .i64 ((5 : Int) + ((kd : Int) % 13 : Int)))) ∧ (w.cell? ⟨r_43, 1, none⟩ = some (.int .i64 x0)) ∧ (w.cell? ⟨r_43, 2, none⟩ = some (.int .i64 0))) w_385 := ⟨c_389, ((f_391).cell rfl), ((f_391).cell rfl), ((f_391).cell rfl), ((f_391).cell rfl), ((f_394).cell rfl), ((f_394).cell rfl), ((f_394).cell rfl)⟩
              refine ⟨hS_403, ?_⟩
              refine K.DW.q 8 (by kernel_rfl) rfl rfl (by kernel_rfl) (by kernel_rfl) (fun w hS => K.QR.nice (v := .bool (((toldS c (⟨(5 : Int) + ((kd : Int) % 13 : Int), x0, 0⟩ : Nm)) : Int) == (((j_395 : Nat) : Int) : Int))) (by kernel_rfl) (congrArg Value.bool (beq_iff_eq.2 (by first | exact told_last3 (by assumption) (by omega) (by assumption) (by assumption) | exact told_pass (by assumption) (by assumption) (by assumption) | exact told_none3 (by assumption) (by omega) (by omega) (by omega) (by assumption) (by assumption))))) hS_403 ?_
              refine K.DW.q 9 (by kernel_rfl) rfl rfl (by kernel_rfl) rfl (fun w hS => K.QR.k (v := .bool true) (by kernel_rfl)) hS_403 ?_
              refine K.DW.q 10 (by kernel_rfl) rfl rfl (by kernel_rfl) rfl (fun w hS => K.QR.k (v := .bool true) (by kernel_rfl)) hS_403 ?_
              refine K.DW.done (by kernel_rfl) ?_
              refine K.thn_normal ?_
              refine K.KW.ret ?_
              refine ⟨.inr rfl, (.bool true), K.res1 rfl rfl, ?_⟩
              exact ⟨rfl, c_389⟩
            ·  -- one way
              have hS_404 : (fun w => K.Chg K.No w0 w ∧ (w.cell? ⟨r_2, 0, none⟩ = some (.int .i64 c.th)) ∧ (w.cell? ⟨r_2, 1, none⟩ = some (.int .i64 c.sl)) ∧ (w.cell? ⟨r_2, 2, none⟩ = some (.int .i64 c.lo)) ∧ (w.cell? ⟨r_2, 3, none⟩ = some (.int .i64 c.bu)) ∧ (w.cell? ⟨r_43, 0, none⟩ = some (.int .i64 ((5 : Int) + ((kd : Int) % 13 : Int)))) ∧ (w.cell? ⟨r_43, 1, none⟩ = some (.int .i64 x0)) ∧ (w.cell? ⟨r_43, 2, none⟩ = some (.int .i64 0))) w_385 := ⟨c_389, ((f_391).cell rfl), ((f_391).cell rfl), ((f_391).cell rfl), ((f_391).cell rfl), ((f_394).cell rfl), ((f_394).cell rfl), ((f_394).cell rfl)⟩
              refine ⟨hS_404, ?_⟩
              refine K.DW.q 8 (by kernel_rfl) rfl rfl (by kernel_rfl) (by kernel_rfl) (fun w hS => K.QR.nice (v := .bool (((toldS c (⟨(5 : Int) + ((kd : Int) % 13 : Int), x0, 0⟩ : Nm)) : Int) == ((-1 - (j_398 : Nat)) : Int))) (by kernel_rfl) (congrArg Value.bool (beq_iff_eq.2 (by first | exact told_last3 (by assumption) (by omega) (by assumption) (by assumption) | exact told_pass (by assumption) (by assumption) (by assumption) | exact told_none3 (by assumption) (by omega) (by omega) (by omega) (by assumption) (by assumption))))) hS_404 ?_
              refine K.DW.q 9 (by kernel_rfl) rfl rfl (by kernel_rfl) rfl (fun w hS => K.QR.k (v := .bool true) (by kernel_rfl)) hS_404 ?_
              refine K.DW.q 10 (by kernel_rfl) rfl rfl (by kernel_rfl) rfl (fun w hS => K.QR.k (v := .bool true) (by kernel_rfl)) hS_404 ?_
              refine K.DW.done (by kernel_rfl) ?_
              refine K.thn_normal ?_
              refine K.KW.ret ?_
              refine ⟨.inr rfl, (.bool true), K.res1 rfl rfl, ?_⟩
              exact ⟨rfl, c_389⟩
            ·  -- one way
              have hS_405 : (fun w => K.Chg K.No w0 w ∧ (w.cell? ⟨r_2, 0, none⟩ = some (.int .i64 c.th)) ∧ (w.cell? ⟨r_2, 1, none⟩ = some (.int .i64 c.sl)) ∧ (w.cell? ⟨r_2, 2, none⟩ = some (.int .i64 c.lo)) ∧ (w.cell? ⟨r_2, 3, none⟩ = some (.int .i64 c.bu)) ∧ (w.cell? ⟨r_43, 0, none⟩ = some (.int .i64 ((5 : Int) + ((kd : Int) % 13 : Int)))) ∧ (w.cell? ⟨r_43, 1, none⟩ = some (.int .i64 x0)) ∧ (w.cell? ⟨r_43, 2, none⟩ = some (.int .i64 0))) w_385 := ⟨c_389, ((f_391).cell rfl), ((f_391).cell rfl), ((f_391).cell rfl), ((f_391).cell rfl), ((f_394).cell rfl), ((f_394).cell rfl), ((f_394).cell rfl)⟩
              refine ⟨hS_405, ?_⟩
              refine K.DW.q 8 (by kernel_rfl) rfl rfl (by kernel_rfl) (by kernel_rfl) (fun w hS => K.QR.nice (v := .bool (((toldS c (⟨(5 : Int) + ((kd : Int) % 13 : Int), x0, 0⟩ : Nm)) : Int) == ((lns c * 8) : Int))) (by kernel_rfl) (congrArg Value.bool (beq_iff_eq.2 (by first | exact told_last3 (by assumption) (by omega) (by assumption) (by assumption) | exact told_pass (by assumption) (by assumption) (by assumption) | exact told_none3 (by assumption) (by omega) (by omega) (by omega) (by assumption) (by assumption))))) hS_405 ?_
              refine K.DW.q 9 (by kernel_rfl) rfl rfl (by kernel_rfl) rfl (fun w hS => K.QR.k (v := .bool true) (by kernel_rfl)) hS_405 ?_
              refine K.DW.q 10 (by kernel_rfl) rfl rfl (by kernel_rfl) rfl (fun w hS => K.QR.k (v := .bool true) (by kernel_rfl)) hS_405 ?_
              refine K.DW.done (by kernel_rfl) ?_
              refine K.thn_normal ?_
              refine K.KW.ret ?_
              refine ⟨.inr rfl, (.bool true), K.res1 rfl rfl, ?_⟩
              exact ⟨rfl, c_389⟩
    ·  -- False
      rw [hb_40] at hv_33; subst hv_33
      have hp_406 := of_decide_eq_false hb_40
      refine K.RW.q rfl rfl (K.QR.k (v := .bool true) (by kernel_rfl)) ?_
      refine K.RW.q rfl rfl (K.QR.k (v := .bool true) (by kernel_rfl)) ?_
      refine K.RW.skip rfl (by kernel_rfl) ?_
      refine K.RW.skip rfl (by kernel_rfl) ?_
      refine K.RW.q rfl rfl (K.QR.k (v := .bool true) (by kernel_rfl)) ?_
      refine K.RW.nil ?_
      refine K.thn_normal ?_
      refine K.KW.ifT rfl ?_
      refine K.KW.seq ?_
      -- region 3 law.go:89
      refine K.KW.region ?_
      refine K.RW.l rfl (K.OW.call rfl [] rfl rfl (by kernel_rfl) (awake06_ok _) ?_) 
      rintro _ w_408 ⟨rfl, c_407⟩
      have c_409 := c_35.no c_407
      have z_410 := c_409.size
      have f_411 := f_37.no c_407
      have f_412 := f_38.no c_407
      have f_413 := f_39.no c_407
      refine K.RW.q rfl rfl (K.QR.k (v := .bool true) (by kernel_rfl)) ?_
      refine K.RW.nil ?_
      refine K.thn_normal ?_
      refine K.KW.ret ?_
      refine K.thn_ret ?_
      refine ⟨.inr rfl, (.bool true), K.res1 rfl rfl, ?_⟩
      exact ⟨rfl, c_409⟩
  ·  -- none
    have c_414 := c_15.no c_25
    have z_415 := c_414.size
    have f_416 := f_17.no c_25
    have f_417 := b_14.no c_25
    refine K.RW.q rfl rfl (K.QR.k (v := .tuple #[.pointer none, .int .i64 1]) (by kernel_rfl)) ?_
    refine K.RW.q rfl rfl (K.QR.k (v := .pointer none) (by kernel_rfl)) ?_
    refine K.RW.q rfl rfl (K.QR.k (v := .int .i64 1) (by kernel_rfl)) ?_
    refine K.RW.q rfl rfl (K.QR.k (v := .pointer none) (by kernel_rfl)) ?_
    refine K.RW.q rfl rfl (K.QR.k (v := .int .i64 1) (by kernel_rfl)) ?_
    refine K.RW.nil ?_
    refine K.thn_normal ?_
    refine K.KW.seq ?_
    refine K.KW.seq ?_
    -- region 2 law.go:88
    refine K.KW.region ?_
    refine K.RW.q rfl rfl (K.QR.ldN [.int .i64 c.th, .int .i64 c.sl, .int .i64 c.lo, .int .i64 c.bu] rfl rfl (by kernel_rfl) (by kernel_rfl) (K.cells (K.cl (f_416.cell rfl) (K.cl (f_416.cell rfl) (K.cl (f_416.cell rfl) (K.cl (f_416.cell rfl) K.cl0)))))) ?_
    refine K.RW.l rfl (K.OW.call rfl [.agg #[.int .i64 c.th, .int .i64 c.sl, .int .i64 c.lo, .int .i64 c.bu]] rfl rfl (by kernel_rfl) (few_ok c _) ?_) 
    rintro v_421 w_419 ⟨hv_420, c_418⟩
    have c_422 := c_414.no c_418
    have z_423 := c_422.size
    have f_424 := f_416.no c_418
    have f_425 := f_417.no c_418
    rcases Bool.eq_false_or_eq_true (decide (fewC c)) with hb_426 | hb_426
    ·  -- True
      rw [hb_426] at hv_420; subst hv_420
      have hp_427 := of_decide_eq_true hb_426
      refine K.RW.q rfl rfl (K.QR.k (v := .bool false) (by kernel_rfl)) ?_
      refine K.RW.q rfl rfl (K.QR.k (v := .bool false) (by kernel_rfl)) ?_
      refine K.RW.q rfl (by kernel_rfl) (K.QR.k (v := .int .i64 1) (by kernel_rfl)) ?_
      refine K.RW.q rfl (by kernel_rfl) (K.QR.k (v := .bool true) (by kernel_rfl)) ?_
      refine K.RW.q rfl rfl (K.QR.k (v := .bool true) (by kernel_rfl)) ?_
      refine K.RW.nil ?_
      refine K.thn_normal ?_
      refine K.KW.ifT rfl ?_
      refine K.KW.seq ?_
      -- region 3 law.go:89
      refine K.KW.region ?_
      refine K.RW.l rfl (K.OW.call rfl [] rfl rfl (by kernel_rfl) (awake06_ok _) ?_) 
      rintro _ w_429 ⟨rfl, c_428⟩
      have c_430 := c_422.no c_428
      have z_431 := c_430.size
      have f_432 := f_424.no c_428
      have f_433 := f_425.no c_428
      refine K.RW.q rfl rfl (K.QR.k (v := .bool true) (by kernel_rfl)) ?_
      refine K.RW.nil ?_
      refine K.thn_normal ?_
      refine K.KW.ret ?_
      refine K.thn_ret ?_
      refine ⟨.inr rfl, (.bool true), K.res1 rfl rfl, ?_⟩
      exact ⟨rfl, c_430⟩
    ·  -- False
      rw [hb_426] at hv_420; subst hv_420
      have hp_434 := of_decide_eq_false hb_426
      refine K.RW.q rfl rfl (K.QR.k (v := .bool true) (by kernel_rfl)) ?_
      refine K.RW.q rfl rfl (K.QR.k (v := .bool true) (by kernel_rfl)) ?_
      refine K.RW.skip rfl (by kernel_rfl) ?_
      refine K.RW.skip rfl (by kernel_rfl) ?_
      refine K.RW.q rfl rfl (K.QR.k (v := .bool true) (by kernel_rfl)) ?_
      refine K.RW.nil ?_
      refine K.thn_normal ?_
      refine K.KW.ifT rfl ?_
      refine K.KW.seq ?_
      -- region 3 law.go:89
      refine K.KW.region ?_
      refine K.RW.l rfl (K.OW.call rfl [] rfl rfl (by kernel_rfl) (awake06_ok _) ?_) 
      rintro _ w_436 ⟨rfl, c_435⟩
      have c_437 := c_422.no c_435
      have z_438 := c_437.size
      have f_439 := f_424.no c_435
      have f_440 := f_425.no c_435
      refine K.RW.q rfl rfl (K.QR.k (v := .bool true) (by kernel_rfl)) ?_
      refine K.RW.nil ?_
      refine K.thn_normal ?_
      refine K.KW.ret ?_
      refine K.thn_ret ?_
      refine ⟨.inr rfl, (.bool true), K.res1 rfl rfl, ?_⟩
      exact ⟨rfl, c_437⟩

set_option maxHeartbeats 1000000 in
set_option maxRecDepth 100000 in
theorem layWords_ok (c : Cfg) (w0 : World) :
    K.KC Try.prog 12 #[.agg #[.int .i64 c.th, .int .i64 c.sl, .int .i64 c.lo, .int .i64 c.bu]] w0 (fun v w' => v = .bool true ∧ K.Chg K.No w0 w') := by
  refine K.KC.mk (n := 95) Try.func12 rfl rfl [.agg #[.int .i64 c.th, .int .i64 c.sl, .int .i64 c.lo, .int .i64 c.bu]] rfl rfl ?_
  refine K.KW.seq ?_
  -- region 0 law.go:60
  refine K.KW.region ?_
  refine K.RW.l rfl (K.OW.new (t := 63) rfl (fun r => .pointer (some ⟨r, 0, none⟩)) [.int .i64 c.th, .int .i64 c.sl, .int .i64 c.lo, .int .i64 c.bu] (by kernel_rfl) ?_) 
  intro w_1 r_2 hr_3 e_4 hs_5 b_6
  have c_7 := e_4
  have z_8 := c_7.size
  refine K.RW.q rfl rfl (K.QR.k (v := .bool false) (by kernel_rfl)) ?_
  refine K.RW.nil ?_
  refine K.thn_normal ?_
  refine K.KW.seq ?_
  refine K.KW.seq ?_
  -- region 1 law.go:61
  refine K.KW.region ?_
  refine K.RW.q rfl rfl (K.QR.ldN [.int .i64 c.th, .int .i64 c.sl, .int .i64 c.lo, .int .i64 c.bu] rfl rfl (by kernel_rfl) (by kernel_rfl) (K.cells (K.cl (b_6.cell rfl) (K.cl (b_6.cell rfl) (K.cl (b_6.cell rfl) (K.cl (b_6.cell rfl) K.cl0)))))) ?_
  refine K.RW.l rfl (K.OW.call rfl [.agg #[.int .i64 c.th, .int .i64 c.sl, .int .i64 c.lo, .int .i64 c.bu]] rfl rfl (by kernel_rfl) (few_ok c _) ?_) 
  rintro v_12 w_10 ⟨hv_11, c_9⟩
  have c_13 := c_7.no c_9
  have z_14 := c_13.size
  have f_15 := b_6.no c_9
  rcases Bool.eq_false_or_eq_true (decide (fewC c)) with hb_16 | hb_16
  ·  -- True
    rw [hb_16] at hv_11; subst hv_11
    have hp_17 := of_decide_eq_true hb_16
    refine K.RW.q rfl rfl (K.QR.k (v := .bool false) (by kernel_rfl)) ?_
    refine K.RW.nil ?_
    refine K.thn_normal ?_
    refine K.KW.ifF rfl ?_
    refine K.KW.skip ?_
    refine K.thn_normal ?_
    refine K.KW.seq ?_
    -- region 3 law.go:64
    refine K.KW.region ?_
    refine K.RW.q rfl rfl (K.QR.ldN [.int .i64 c.th, .int .i64 c.sl, .int .i64 c.lo, .int .i64 c.bu] rfl rfl (by kernel_rfl) (by kernel_rfl) (K.cells (K.cl (f_15.cell rfl) (K.cl (f_15.cell rfl) (K.cl (f_15.cell rfl) (K.cl (f_15.cell rfl) K.cl0)))))) ?_
    refine K.RW.l rfl (K.OW.call rfl [.agg #[.int .i64 c.th, .int .i64 c.sl, .int .i64 c.lo, .int .i64 c.bu]] rfl rfl (by kernel_rfl) (of_ok c _) ?_) 
    rintro v_18 w_19 (⟨b_20, rfl, hc_21, c_22, hb_23, hl_24⟩ | ⟨rfl, hn_26, c_25⟩)
    ·  -- a layout
      have c_27 := c_13.no c_22
      have z_28 := c_27.size
      have f_29 := f_15.no c_22
      refine K.RW.q rfl rfl (K.QR.k (v := .tuple #[.pointer (some ⟨b_20, 0, none⟩), .int .i64 0]) (by kernel_rfl)) ?_
      refine K.RW.q rfl rfl (K.QR.k (v := .pointer (some ⟨b_20, 0, none⟩)) (by kernel_rfl)) ?_
      refine K.RW.q rfl rfl (K.QR.k (v := .int .i64 0) (by kernel_rfl)) ?_
      refine K.RW.q rfl rfl (K.QR.k (v := .pointer (some ⟨b_20, 0, none⟩)) (by kernel_rfl)) ?_
      refine K.RW.q rfl rfl (K.QR.k (v := .int .i64 0) (by kernel_rfl)) ?_
      refine K.RW.nil ?_
      refine K.thn_normal ?_
      refine K.KW.seq ?_
      refine K.KW.seq ?_
      -- region 4 law.go:65
      refine K.KW.region ?_
      refine K.RW.q rfl rfl (K.QR.ldN [.int .i64 c.th, .int .i64 c.sl, .int .i64 c.lo, .int .i64 c.bu] rfl rfl (by kernel_rfl) (by kernel_rfl) (K.cells (K.cl (f_29.cell rfl) (K.cl (f_29.cell rfl) (K.cl (f_29.cell rfl) (K.cl (f_29.cell rfl) K.cl0)))))) ?_
      refine K.RW.l rfl (K.OW.call rfl [.agg #[.int .i64 c.th, .int .i64 c.sl, .int .i64 c.lo, .int .i64 c.bu]] rfl rfl (by kernel_rfl) (rright05_ok c _) ?_) 
      rintro v_33 w_31 ⟨hv_32, c_30⟩
      have c_34 := c_27.no c_30
      have z_35 := c_34.size
      have f_36 := f_29.no c_30
      have f_37 := hl_24.no c_30
      rcases Bool.eq_false_or_eq_true (decide (cfgOk c)) with hb_38 | hb_38
      ·  -- True
        rw [hb_38] at hv_32; subst hv_32
        have hp_39 := of_decide_eq_true hb_38
        refine K.RW.q rfl rfl (K.QR.k (v := .bool false) (by kernel_rfl)) ?_
        refine K.RW.nil ?_
        refine K.thn_normal ?_
        refine K.KW.ifF rfl ?_
        refine K.KW.skip ?_
        refine K.thn_normal ?_
        refine K.KW.seq ?_
        -- region 6 law.go:68
        refine K.KW.drawn (fun w => K.Chg K.No w0 w ∧ (w.cell? ⟨r_2, 0, none⟩ = some (.int .i64 c.th)) ∧ (w.cell? ⟨r_2, 1, none⟩ = some (.int .i64 c.sl)) ∧ (w.cell? ⟨r_2, 2, none⟩ = some (.int .i64 c.lo)) ∧ (w.cell? ⟨r_2, 3, none⟩ = some (.int .i64 c.bu))) (by kernel_rfl) ?_
        intro w_40 e_41 hs_42
        have c_44 := c_34.no e_41
        have z_45 := c_44.size
        have f_46 := f_36.no e_41
        have f_47 := f_37.no e_41
        have hS_43 : (fun w => K.Chg K.No w0 w ∧ (w.cell? ⟨r_2, 0, none⟩ = some (.int .i64 c.th)) ∧ (w.cell? ⟨r_2, 1, none⟩ = some (.int .i64 c.sl)) ∧ (w.cell? ⟨r_2, 2, none⟩ = some (.int .i64 c.lo)) ∧ (w.cell? ⟨r_2, 3, none⟩ = some (.int .i64 c.bu))) w_40 := ⟨c_44, ((f_46).cell rfl), ((f_46).cell rfl), ((f_46).cell rfl), ((f_46).cell rfl)⟩
        refine K.DW.q 0 (by kernel_rfl) rfl rfl (by kernel_rfl) rfl (fun w hS => K.QR.ldN [.int .i64 c.th, .int .i64 c.sl, .int .i64 c.lo, .int .i64 c.bu] rfl rfl (by kernel_rfl) (by kernel_rfl) (K.cells (K.cl (hS.2.1) (K.cl (hS.2.2.1) (K.cl (hS.2.2.2.1) (K.cl (hS.2.2.2.2) K.cl0)))))) hS_43 ?_
        refine K.DW.q 2 (by kernel_rfl) rfl rfl (by kernel_rfl) rfl (fun w hS => K.QR.ldN [.int .i64 c.th, .int .i64 c.sl, .int .i64 c.lo, .int .i64 c.bu] rfl rfl (by kernel_rfl) (by kernel_rfl) (K.cells (K.cl (hS.2.1) (K.cl (hS.2.2.1) (K.cl (hS.2.2.2.1) (K.cl (hS.2.2.2.2) K.cl0)))))) hS_43 ?_
        refine K.DW.l 1 rfl (by kernel_rfl) rfl (K.OW.call rfl [.agg #[.int .i64 c.th, .int .i64 c.sl, .int .i64 c.lo, .int .i64 c.bu]] rfl rfl (by kernel_rfl) (lasting_ok c _ (by assumption)) ?_)
        rintro _ w_54 ⟨r_48, m_49, cc_50, rfl, c_51, o_52, rfl⟩
        have c_55 := c_44.no c_51
        have z_56 := c_55.size
        have f_57 := f_46.no c_51
        have f_58 := f_47.no c_51
        have o_59 := K.Own.mono (base' := w0.heap.size) o_52 (by omega)
        have hS_60 : (fun w => K.Chg K.No w0 w ∧ (w.cell? ⟨r_2, 0, none⟩ = some (.int .i64 c.th)) ∧ (w.cell? ⟨r_2, 1, none⟩ = some (.int .i64 c.sl)) ∧ (w.cell? ⟨r_2, 2, none⟩ = some (.int .i64 c.lo)) ∧ (w.cell? ⟨r_2, 3, none⟩ = some (.int .i64 c.bu))) w_54 := ⟨c_55, ((f_57).cell rfl), ((f_57).cell rfl), ((f_57).cell rfl), ((f_57).cell rfl)⟩
        refine ⟨hS_60, ?_⟩
        refine K.DW.l 3 rfl (by kernel_rfl) rfl (K.OW.call rfl [.agg #[.int .i64 c.th, .int .i64 c.sl, .int .i64 c.lo, .int .i64 c.bu]] rfl rfl (by kernel_rfl) (passing_ok c _ (by assumption)) ?_)
        rintro _ w_67 ⟨r_61, m_62, cc_63, rfl, c_64, o_65, rfl⟩
        have c_68 := c_55.no c_64
        have z_69 := c_68.size
        have f_70 := f_57.no c_64
        have f_71 := f_58.no c_64
        have f_72 := o_59.no c_64
        have o_73 := K.Own.mono (base' := w0.heap.size) o_65 (by omega)
        have hS_74 : (fun w => K.Chg K.No w0 w ∧ (w.cell? ⟨r_2, 0, none⟩ = some (.int .i64 c.th)) ∧ (w.cell? ⟨r_2, 1, none⟩ = some (.int .i64 c.sl)) ∧ (w.cell? ⟨r_2, 2, none⟩ = some (.int .i64 c.lo)) ∧ (w.cell? ⟨r_2, 3, none⟩ = some (.int .i64 c.bu))) w_67 := ⟨c_68, ((f_70).cell rfl), ((f_70).cell rfl), ((f_70).cell rfl), ((f_70).cell rfl)⟩
        refine ⟨hS_74, ?_⟩
        refine K.DW.q 4 (by kernel_rfl) rfl rfl (by kernel_rfl) rfl (fun w hS => K.QR.k (v := .slice r_48 ((lasting c).length) cc_50) (by kernel_rfl)) hS_74 ?_
        refine K.DW.q 5 (by kernel_rfl) rfl rfl (by kernel_rfl) rfl (fun w hS => K.QR.k (v := .slice r_61 ((passing c).length) cc_63) (by kernel_rfl)) hS_74 ?_
        refine K.DW.done (by kernel_rfl) ?_
        refine K.thn_normal ?_
        refine K.KW.seq ?_
        refine K.KW.seq ?_
        -- region 7 law.go:69
        have hbd := lay_bd (by assumption : cfgOk c)
        have hll := lasting_len (by assumption : cfgOk c)
        have hpl := passing_len (by assumption : cfgOk c)
        have hcc := (by assumption : cfgOk c)
        unfold cfgOk at hcc
        refine K.KW.drawn (fun w => K.Chg K.No w0 w ∧ (w.cell? ⟨r_2, 0, none⟩ = some (.int .i64 c.th)) ∧ (w.cell? ⟨r_2, 1, none⟩ = some (.int .i64 c.sl)) ∧ (w.cell? ⟨r_2, 2, none⟩ = some (.int .i64 c.lo)) ∧ (w.cell? ⟨r_2, 3, none⟩ = some (.int .i64 c.bu))) (by kernel_rfl) ?_
        intro w_75 e_76 hs_77
        have c_79 := c_68.no e_76
        have z_80 := c_79.size
        have f_81 := f_70.no e_76
        have f_82 := f_71.no e_76
        have f_83 := f_72.no e_76
        have f_84 := o_73.no e_76
        have hS_78 : (fun w => K.Chg K.No w0 w ∧ (w.cell? ⟨r_2, 0, none⟩ = some (.int .i64 c.th)) ∧ (w.cell? ⟨r_2, 1, none⟩ = some (.int .i64 c.sl)) ∧ (w.cell? ⟨r_2, 2, none⟩ = some (.int .i64 c.lo)) ∧ (w.cell? ⟨r_2, 3, none⟩ = some (.int .i64 c.bu))) w_75 := ⟨c_79, ((f_81).cell rfl), ((f_81).cell rfl), ((f_81).cell rfl), ((f_81).cell rfl)⟩
        refine K.DW.q 0 (by kernel_rfl) rfl rfl (by kernel_rfl) rfl (fun w hS => K.QR.k (v := .int .i64 0) (by kernel_rfl)) hS_78 ?_
        refine K.DW.q 1 (by kernel_rfl) rfl rfl (by kernel_rfl) rfl (fun w hS => K.QR.k (v := .bool false) (by kernel_rfl)) hS_78 ?_
        refine K.DW.q 2 (by kernel_rfl) rfl rfl (by kernel_rfl) rfl (fun w hS => K.QR.k (v := .bool false) (by kernel_rfl)) hS_78 ?_
        refine K.DW.q 3 (by kernel_rfl) rfl rfl (by kernel_rfl) (by kernel_rfl) (fun w hS => K.QR.k (v := .pointer (some ⟨b_20, 0, none⟩)) (by kernel_rfl)) hS_78 ?_
        refine K.DW.q 5 (by kernel_rfl) rfl rfl (by kernel_rfl) (by kernel_rfl) (fun w hS => K.QR.ldN [.int .i64 c.th, .int .i64 c.sl, .int .i64 c.lo, .int .i64 c.bu] rfl rfl (by kernel_rfl) (by kernel_rfl) (K.cells (K.cl (hS.2.1) (K.cl (hS.2.2.1) (K.cl (hS.2.2.2.1) (K.cl (hS.2.2.2.2) K.cl0)))))) hS_78 ?_
        refine K.DW.l 4 rfl (by kernel_rfl) (by kernel_rfl) (K.OW.call rfl [.pointer (some ⟨b_20, 0, none⟩)] rfl rfl (by kernel_rfl) (lConfig _ c  _ (by assumption) f_82) ?_)
        rintro _ w_86 ⟨rfl, c_85⟩
        have c_87 := c_79.no c_85
        have z_88 := c_87.size
        have f_89 := f_81.no c_85
        have f_90 := f_82.no c_85
        have f_91 := f_83.no c_85
        have f_92 := f_84.no c_85
        have hS_93 : (fun w => K.Chg K.No w0 w ∧ (w.cell? ⟨r_2, 0, none⟩ = some (.int .i64 c.th)) ∧ (w.cell? ⟨r_2, 1, none⟩ = some (.int .i64 c.sl)) ∧ (w.cell? ⟨r_2, 2, none⟩ = some (.int .i64 c.lo)) ∧ (w.cell? ⟨r_2, 3, none⟩ = some (.int .i64 c.bu))) w_86 := ⟨c_87, ((f_89).cell rfl), ((f_89).cell rfl), ((f_89).cell rfl), ((f_89).cell rfl)⟩
        refine ⟨hS_93, ?_⟩
        refine K.DW.q 6 (by kernel_rfl) rfl rfl (by kernel_rfl) (by kernel_rfl) (fun w hS => K.QR.neS (by kernel_rfl) rfl rfl rfl (eqCfg_t (⟨rfl, rfl, rfl, rfl⟩))) hS_93 ?_
        refine K.DW.q 7 (by kernel_rfl) rfl rfl (by kernel_rfl) rfl (fun w hS => K.QR.k (v := .bool false) (by kernel_rfl)) hS_93 ?_
        refine K.DW.q 8 (by kernel_rfl) rfl rfl (by kernel_rfl) rfl (fun w hS => K.QR.k (v := .bool false) (by kernel_rfl)) hS_93 ?_
        refine K.DW.q 9 (by kernel_rfl) rfl rfl (by kernel_rfl) (by kernel_rfl) (fun w hS => K.QR.k (v := .pointer (some ⟨b_20, 0, none⟩)) (by kernel_rfl)) hS_93 ?_
        refine K.DW.q 11 (by kernel_rfl) rfl rfl (by kernel_rfl) (by kernel_rfl) (fun w hS => K.QR.k (v := .slice r_48 ((lasting c).length) cc_50) (by kernel_rfl)) hS_93 ?_
        refine K.DW.q 12 (by kernel_rfl) rfl rfl (by kernel_rfl) (by kernel_rfl) (fun w hS => K.QR.len (P := Try.prog) rfl rfl Try.underlying68) hS_93 ?_
        refine K.DW.q 13 (by kernel_rfl) rfl rfl (by kernel_rfl) (by kernel_rfl) (fun w hS => K.QR.quoi64 ((((lasting c).length : Nat) : Int) : Int) 8 ((((lasting c).length) / 8 : Nat) : Int) (by kernel_rfl) (by omega) (by omega)) hS_93 ?_
        refine K.DW.l 10 rfl (by kernel_rfl) (by kernel_rfl) (K.OW.call rfl [.pointer (some ⟨b_20, 0, none⟩)] rfl rfl (by kernel_rfl) (lLines _ c  _ (by assumption) f_90) ?_)
        rintro _ w_95 ⟨rfl, c_94⟩
        have c_96 := c_87.no c_94
        have z_97 := c_96.size
        have f_98 := f_89.no c_94
        have f_99 := f_90.no c_94
        have f_100 := f_91.no c_94
        have f_101 := f_92.no c_94
        have hS_102 : (fun w => K.Chg K.No w0 w ∧ (w.cell? ⟨r_2, 0, none⟩ = some (.int .i64 c.th)) ∧ (w.cell? ⟨r_2, 1, none⟩ = some (.int .i64 c.sl)) ∧ (w.cell? ⟨r_2, 2, none⟩ = some (.int .i64 c.lo)) ∧ (w.cell? ⟨r_2, 3, none⟩ = some (.int .i64 c.bu))) w_95 := ⟨c_96, ((f_98).cell rfl), ((f_98).cell rfl), ((f_98).cell rfl), ((f_98).cell rfl)⟩
        refine ⟨hS_102, ?_⟩
        refine K.DW.q 14 (by kernel_rfl) rfl rfl (by kernel_rfl) (by kernel_rfl) (fun w hS => K.QR.nice (v := .bool (((lns c) : Int) != (((((lasting c).length) / 8 : Nat) : Int) : Int))) (by kernel_rfl) (congrArg Value.bool (bne_eq_false_iff_eq.2 (by omega)))) hS_102 ?_
        refine K.DW.q 15 (by kernel_rfl) rfl rfl (by kernel_rfl) rfl (fun w hS => K.QR.k (v := .bool false) (by kernel_rfl)) hS_102 ?_
        refine K.DW.q 16 (by kernel_rfl) rfl rfl (by kernel_rfl) rfl (fun w hS => K.QR.k (v := .bool false) (by kernel_rfl)) hS_102 ?_
        refine K.DW.q 17 (by kernel_rfl) rfl rfl (by kernel_rfl) (by kernel_rfl) (fun w hS => K.QR.k (v := .pointer (some ⟨b_20, 0, none⟩)) (by kernel_rfl)) hS_102 ?_
        refine K.DW.q 19 (by kernel_rfl) rfl rfl (by kernel_rfl) (by kernel_rfl) (fun w hS => K.QR.k (v := .slice r_61 ((passing c).length) cc_63) (by kernel_rfl)) hS_102 ?_
        refine K.DW.q 20 (by kernel_rfl) rfl rfl (by kernel_rfl) (by kernel_rfl) (fun w hS => K.QR.len (P := Try.prog) rfl rfl Try.underlying68) hS_102 ?_
        refine K.DW.l 18 rfl (by kernel_rfl) (by kernel_rfl) (K.OW.call rfl [.pointer (some ⟨b_20, 0, none⟩)] rfl rfl (by kernel_rfl) (lPassing _ c  _ (by assumption) f_99) ?_)
        rintro _ w_104 ⟨rfl, c_103⟩
        have c_105 := c_96.no c_103
        have z_106 := c_105.size
        have f_107 := f_98.no c_103
        have f_108 := f_99.no c_103
        have f_109 := f_100.no c_103
        have f_110 := f_101.no c_103
        have hS_111 : (fun w => K.Chg K.No w0 w ∧ (w.cell? ⟨r_2, 0, none⟩ = some (.int .i64 c.th)) ∧ (w.cell? ⟨r_2, 1, none⟩ = some (.int .i64 c.sl)) ∧ (w.cell? ⟨r_2, 2, none⟩ = some (.int .i64 c.lo)) ∧ (w.cell? ⟨r_2, 3, none⟩ = some (.int .i64 c.bu))) w_104 := ⟨c_105, ((f_107).cell rfl), ((f_107).cell rfl), ((f_107).cell rfl), ((f_107).cell rfl)⟩
        refine ⟨hS_111, ?_⟩
        refine K.DW.q 21 (by kernel_rfl) rfl rfl (by kernel_rfl) (by kernel_rfl) (fun w hS => K.QR.nice (v := .bool (((2 + c.th + c.sl) : Int) != ((((passing c).length : Nat) : Int) : Int))) (by kernel_rfl) (congrArg Value.bool (bne_eq_false_iff_eq.2 (by omega)))) hS_111 ?_
        refine K.DW.q 22 (by kernel_rfl) rfl rfl (by kernel_rfl) rfl (fun w hS => K.QR.k (v := .bool false) (by kernel_rfl)) hS_111 ?_
        refine K.DW.done (by kernel_rfl) ?_
        refine K.thn_normal ?_
        refine K.KW.ifF rfl ?_
        refine K.KW.skip ?_
        refine K.thn_normal ?_
        refine K.KW.seq ?_
        refine K.KW.seq ?_
        -- region 9 law.go:72
        refine K.KW.region ?_
        refine K.RW.q rfl rfl (K.QR.k (v := .int .i64 0) (by kernel_rfl)) ?_
        refine K.RW.nil ?_
        refine K.thn_normal ?_
        refine K.KW.block ?_
        refine K.KW.loop (fun m_ F_ w_112 => ∃ (i : Nat), m_ = (lasting c).length - i ∧ K.Sl F_ [(0, .agg #[.int .i64 c.th, .int .i64 c.sl, .int .i64 c.lo, .int .i64 c.bu]), (3, .pointer (some ⟨b_20, 0, none⟩)), (5, .slice r_48 ((lasting c).length) cc_50), (6, .slice r_61 ((passing c).length) cc_63), (7, .int .i64 ((i : Nat) : Int))] ∧ i ≤ (lasting c).length ∧ K.Chg K.No w0 w_112 ∧ K.Own w_112 w0.heap.size 81 3 r_48 ((lasting c).length) cc_50 (((lasting c)).flatMap cNm) ∧ K.Own w_112 w0.heap.size 81 3 r_61 ((passing c).length) cc_63 (((passing c)).flatMap cNm) ∧ K.Blk w_112 r_2 63 [.int .i64 c.th, .int .i64 c.sl, .int .i64 c.lo, .int .i64 c.bu] ∧ K.Blk w_112 b_20 100 [.int .i64 c.th, .int .i64 c.sl, .int .i64 c.lo, .int .i64 c.bu, .int .i64 (tFirst c), .int .i64 (lFirst c), .int .i64 (lsz c), .int .i64 (sFirst c), .int .i64 (lns c)]) ((fun (i : Nat) => (lasting c).length - i) 0) ?_ ?_
        · -- the loop begins
          exact ⟨0, rfl, ⟨by rfl, by rfl, by rfl, by rfl, by rfl, trivial⟩, (by omega), c_105, f_109, f_110, f_107, f_108⟩
        · -- a round
          intro m_117 F_118 w_112 hI
          obtain ⟨i, rfl, sl_119, p_121, c_120, f_122, f_123, f_124, f_125⟩ := hI
          rw [← K.Sl.puts sl_119]; clear sl_119
          have z_126 := c_120.size
          refine K.KW.seq ?_
          refine K.KW.seq ?_
          -- region 10 law.go:72
          refine K.KW.region ?_
          refine K.RW.q rfl rfl (K.QR.k (v := .int .i64 ((i : Nat) : Int)) (by kernel_rfl)) ?_
          refine K.RW.q rfl rfl (K.QR.k (v := .slice r_48 ((lasting c).length) cc_50) (by kernel_rfl)) ?_
          refine K.RW.q rfl rfl (K.QR.len (P := Try.prog) rfl rfl Try.underlying68) ?_
          by_cases h_127 : (((i : Nat) : Int) : Int) < ((((lasting c).length : Nat) : Int) : Int)
          ·  -- yes
            refine K.RW.q rfl rfl (K.QR.nice (v := .bool (decide ((((i : Nat) : Int) : Int) < ((((lasting c).length : Nat) : Int) : Int)))) (by kernel_rfl) (congrArg Value.bool (decide_eq_true h_127))) ?_
            refine K.RW.nil ?_
            refine K.thn_normal ?_
            refine K.KW.ifT rfl ?_
            refine K.KW.skip ?_
            refine K.thn_normal ?_
            refine K.KW.seq ?_
            refine K.KW.block ?_
            refine K.KW.seq ?_
            -- region 12 law.go:73
            obtain ⟨b_128, rfl, gb_130, gl_131⟩ := f_122.some_ (by omega)
            refine K.KW.region ?_
            refine K.RW.q rfl rfl (K.QR.k (v := .slice (some ⟨b_128, 0, none⟩) ((lasting c).length) cc_50) (by kernel_rfl)) ?_
            refine K.RW.q rfl rfl (K.QR.k (v := .int .i64 ((i : Nat) : Int)) (by kernel_rfl)) ?_
            refine K.RW.q rfl rfl (K.QR.ix (0 + i * 3) 3 rfl rfl rfl Try.underlying68 (by kernel_rfl) (by omega) (by simp)) ?_
            refine K.RW.q rfl rfl (K.QR.k (v := .pointer (some ⟨b_128, 0 + i * 3, none⟩)) (by kernel_rfl)) ?_
            refine K.RW.q rfl rfl (K.QR.ld1 (v := .int .i64 (((lasting c).getD i nm0).k)) rfl rfl (by kernel_rfl) ((K.Own.rowE nm0 f_122 rfl (fun _ => rfl)).ld i (by omega) 0 _ rfl)) ?_
            by_cases h_132 : (((lasting c).getD i nm0).k : Int) > (1 : Int)
            ·  -- yes
              refine K.RW.q rfl rfl (K.QR.nice (v := .bool (decide ((((lasting c).getD i nm0).k : Int) > (1 : Int)))) (by kernel_rfl) (congrArg Value.bool (decide_eq_true h_132))) ?_
              refine K.RW.q rfl rfl (K.QR.k (v := .bool true) (by kernel_rfl)) ?_
              refine K.RW.q rfl (by kernel_rfl) (K.QR.k (v := .pointer (some ⟨b_20, 0, none⟩)) (by kernel_rfl)) ?_
              refine K.RW.q rfl (by kernel_rfl) (K.QR.k (v := .slice (some ⟨b_128, 0, none⟩) ((lasting c).length) cc_50) (by kernel_rfl)) ?_
              refine K.RW.q rfl (by kernel_rfl) (K.QR.k (v := .int .i64 ((i : Nat) : Int)) (by kernel_rfl)) ?_
              refine K.RW.q rfl (by kernel_rfl) (K.QR.ix (0 + i * 3) 3 rfl rfl rfl Try.underlying68 (by kernel_rfl) (by omega) (by simp)) ?_
              refine K.RW.q rfl (by kernel_rfl) (K.QR.ldN [.int .i64 (((lasting c).getD i nm0).k), .int .i64 (((lasting c).getD i nm0).a), .int .i64 (((lasting c).getD i nm0).b)] rfl rfl (by kernel_rfl) (by kernel_rfl) (K.cells (K.cl ((K.Own.rowE nm0 f_122 rfl (fun _ => rfl)).ld i (by omega) 0 _ rfl) (K.cl ((K.Own.rowE nm0 f_122 rfl (fun _ => rfl)).ld i (by omega) 1 _ rfl) (K.cl ((K.Own.rowE nm0 f_122 rfl (fun _ => rfl)).ld i (by omega) 2 _ rfl) K.cl0))))) ?_
              refine K.RW.l (by kernel_rfl) (K.OW.call rfl [.pointer (some ⟨b_20, 0, none⟩), .agg #[.int .i64 (((lasting c).getD i nm0).k), .int .i64 (((lasting c).getD i nm0).a), .int .i64 (((lasting c).getD i nm0).b)]] rfl rfl (by kernel_rfl) (told_ok _ c ((lasting c).getD i nm0) _ (by assumption) f_125) ?_) 
              rintro _ w_134 ⟨rfl, c_133⟩
              have c_135 := c_120.no c_133
              have z_136 := c_135.size
              have f_137 := f_122.no c_133
              have f_138 := f_123.no c_133
              have f_139 := f_124.no c_133
              have f_140 := f_125.no c_133
              refine K.RW.q rfl (by kernel_rfl) (K.QR.k (v := .int .i64 ((i : Nat) : Int)) (by kernel_rfl)) ?_
              refine K.RW.q rfl (by kernel_rfl) (K.QR.nice (v := .bool (((toldS c ((lasting c).getD i nm0)) : Int) != (((i : Nat) : Int) : Int))) (by kernel_rfl) (congrArg Value.bool (bne_eq_false_iff_eq.2 (by exact told_last (by assumption) (by omega) (by omega) ⟨rfl, rfl, rfl⟩)))) ?_
              refine K.RW.q rfl rfl (K.QR.k (v := .bool false) (by kernel_rfl)) ?_
              refine K.RW.nil ?_
              refine K.thn_normal ?_
              refine K.KW.ifF rfl ?_
              refine K.KW.skip ?_
              refine K.blk_normal ?_
              refine K.thn_normal ?_
              -- region 11 law.go:72
              refine K.KW.region ?_
              refine K.RW.q rfl rfl (K.QR.k (v := .int .i64 ((i : Nat) : Int)) (by kernel_rfl)) ?_
              refine K.RW.q rfl rfl (K.QR.n64 ((((i : Nat) : Int) : Int) + (1 : Int)) ((i + 1 : Nat) : Int) (by kernel_rfl) (by omega)) ?_
              refine K.RW.q rfl rfl (K.QR.k (v := .int .i64 ((i + 1 : Nat) : Int)) (by kernel_rfl)) ?_
              refine K.RW.nil ?_
              refine K.thn_normal ?_
              refine ⟨_, ?_, i + 1, rfl, ⟨by rfl, by rfl, by rfl, by rfl, by rfl, trivial⟩, (by omega), c_135, f_137, f_138, f_139, f_140⟩
              omega
            ·  -- no
              refine K.RW.q rfl rfl (K.QR.nice (v := .bool (decide ((((lasting c).getD i nm0).k : Int) > (1 : Int)))) (by kernel_rfl) (congrArg Value.bool (decide_eq_false h_132))) ?_
              refine K.RW.q rfl rfl (K.QR.k (v := .bool false) (by kernel_rfl)) ?_
              refine K.RW.skip rfl (by kernel_rfl) ?_
              refine K.RW.skip rfl (by kernel_rfl) ?_
              refine K.RW.skip rfl (by kernel_rfl) ?_
              refine K.RW.skip rfl (by kernel_rfl) ?_
              refine K.RW.skip rfl (by kernel_rfl) ?_
              refine K.RW.skip rfl (by kernel_rfl) ?_
              refine K.RW.skip rfl (by kernel_rfl) ?_
              refine K.RW.skip rfl (by kernel_rfl) ?_
              refine K.RW.q rfl rfl (K.QR.k (v := .bool false) (by kernel_rfl)) ?_
              refine K.RW.nil ?_
              refine K.thn_normal ?_
              refine K.KW.ifF rfl ?_
              refine K.KW.skip ?_
              refine K.blk_normal ?_
              refine K.thn_normal ?_
              -- region 11 law.go:72
              refine K.KW.region ?_
              refine K.RW.q rfl rfl (K.QR.k (v := .int .i64 ((i : Nat) : Int)) (by kernel_rfl)) ?_
              refine K.RW.q rfl rfl (K.QR.n64 ((((i : Nat) : Int) : Int) + (1 : Int)) ((i + 1 : Nat) : Int) (by kernel_rfl) (by omega)) ?_
              refine K.RW.q rfl rfl (K.QR.k (v := .int .i64 ((i + 1 : Nat) : Int)) (by kernel_rfl)) ?_
              refine K.RW.nil ?_
              refine K.thn_normal ?_
              refine ⟨_, ?_, i + 1, rfl, ⟨by rfl, by rfl, by rfl, by rfl, by rfl, trivial⟩, (by omega), c_120, f_122, f_123, f_124, f_125⟩
              omega
          ·  -- no
            refine K.RW.q rfl rfl (K.QR.nice (v := .bool (decide ((((i : Nat) : Int) : Int) < ((((lasting c).length : Nat) : Int) : Int)))) (by kernel_rfl) (congrArg Value.bool (decide_eq_false h_127))) ?_
            refine K.RW.nil ?_
            refine K.thn_normal ?_
            refine K.KW.ifF rfl ?_
            refine K.KW.exit ?_
            refine K.thn_exit ?_
            refine K.thn_exit ?_
            refine K.blk_hit ?_
            refine K.thn_normal ?_
            refine K.KW.seq ?_
            refine K.KW.seq ?_
            -- region 14 law.go:77
            refine K.KW.region ?_
            refine K.RW.q rfl rfl (K.QR.k (v := .int .i64 0) (by kernel_rfl)) ?_
            refine K.RW.nil ?_
            refine K.thn_normal ?_
            refine K.KW.block ?_
            refine K.KW.loop (fun m_ F_ w_141 => ∃ (k : Nat), m_ = (passing c).length - k ∧ K.Sl F_ [(0, .agg #[.int .i64 c.th, .int .i64 c.sl, .int .i64 c.lo, .int .i64 c.bu]), (3, .pointer (some ⟨b_20, 0, none⟩)), (6, .slice r_61 ((passing c).length) cc_63), (8, .int .i64 ((k : Nat) : Int))] ∧ k ≤ (passing c).length ∧ K.Chg K.No w0 w_141 ∧ K.Own w_141 w0.heap.size 81 3 r_48 ((lasting c).length) cc_50 (((lasting c)).flatMap cNm) ∧ K.Own w_141 w0.heap.size 81 3 r_61 ((passing c).length) cc_63 (((passing c)).flatMap cNm) ∧ K.Blk w_141 r_2 63 [.int .i64 c.th, .int .i64 c.sl, .int .i64 c.lo, .int .i64 c.bu] ∧ K.Blk w_141 b_20 100 [.int .i64 c.th, .int .i64 c.sl, .int .i64 c.lo, .int .i64 c.bu, .int .i64 (tFirst c), .int .i64 (lFirst c), .int .i64 (lsz c), .int .i64 (sFirst c), .int .i64 (lns c)]) ((fun (k : Nat) => (passing c).length - k) 0) ?_ ?_
            · -- the loop begins
              exact ⟨0, rfl, ⟨by rfl, by rfl, by rfl, by rfl, trivial⟩, (by omega), c_120, f_122, f_123, f_124, f_125⟩
            · -- a round
              intro m_146 F_147 w_141 hI
              obtain ⟨k, rfl, sl_148, p_150, c_149, f_151, f_152, f_153, f_154⟩ := hI
              rw [← K.Sl.puts sl_148]; clear sl_148
              have z_155 := c_149.size
              refine K.KW.seq ?_
              refine K.KW.seq ?_
              -- region 15 law.go:77
              refine K.KW.region ?_
              refine K.RW.q rfl rfl (K.QR.k (v := .int .i64 ((k : Nat) : Int)) (by kernel_rfl)) ?_
              refine K.RW.q rfl rfl (K.QR.k (v := .slice r_61 ((passing c).length) cc_63) (by kernel_rfl)) ?_
              refine K.RW.q rfl rfl (K.QR.len (P := Try.prog) rfl rfl Try.underlying68) ?_
              by_cases h_156 : (((k : Nat) : Int) : Int) < ((((passing c).length : Nat) : Int) : Int)
              ·  -- yes
                refine K.RW.q rfl rfl (K.QR.nice (v := .bool (decide ((((k : Nat) : Int) : Int) < ((((passing c).length : Nat) : Int) : Int)))) (by kernel_rfl) (congrArg Value.bool (decide_eq_true h_156))) ?_
                refine K.RW.nil ?_
                refine K.thn_normal ?_
                refine K.KW.ifT rfl ?_
                refine K.KW.skip ?_
                refine K.thn_normal ?_
                refine K.KW.seq ?_
                refine K.KW.block ?_
                refine K.KW.seq ?_
                -- region 17 law.go:78
                obtain ⟨b_157, rfl, gb_159, gl_160⟩ := f_152.some_ (by omega)
                refine K.KW.region ?_
                refine K.RW.q rfl rfl (K.QR.k (v := .pointer (some ⟨b_20, 0, none⟩)) (by kernel_rfl)) ?_
                refine K.RW.q rfl rfl (K.QR.k (v := .slice (some ⟨b_157, 0, none⟩) ((passing c).length) cc_63) (by kernel_rfl)) ?_
                refine K.RW.q rfl rfl (K.QR.k (v := .int .i64 ((k : Nat) : Int)) (by kernel_rfl)) ?_
                refine K.RW.q rfl rfl (K.QR.ix (0 + k * 3) 3 rfl rfl rfl Try.underlying68 (by kernel_rfl) (by omega) (by simp)) ?_
                refine K.RW.q rfl rfl (K.QR.ldN [.int .i64 (((passing c).getD k nm0).k), .int .i64 (((passing c).getD k nm0).a), .int .i64 (((passing c).getD k nm0).b)] rfl rfl (by kernel_rfl) (by kernel_rfl) (K.cells (K.cl ((K.Own.rowE nm0 f_152 rfl (fun _ => rfl)).ld k (by omega) 0 _ rfl) (K.cl ((K.Own.rowE nm0 f_152 rfl (fun _ => rfl)).ld k (by omega) 1 _ rfl) (K.cl ((K.Own.rowE nm0 f_152 rfl (fun _ => rfl)).ld k (by omega) 2 _ rfl) K.cl0))))) ?_
                refine K.RW.l rfl (K.OW.call rfl [.pointer (some ⟨b_20, 0, none⟩), .agg #[.int .i64 (((passing c).getD k nm0).k), .int .i64 (((passing c).getD k nm0).a), .int .i64 (((passing c).getD k nm0).b)]] rfl rfl (by kernel_rfl) (told_ok _ c ((passing c).getD k nm0) _ (by assumption) f_154) ?_) 
                rintro _ w_162 ⟨rfl, c_161⟩
                have c_163 := c_149.no c_161
                have z_164 := c_163.size
                have f_165 := f_151.no c_161
                have f_166 := f_152.no c_161
                have f_167 := f_153.no c_161
                have f_168 := f_154.no c_161
                refine K.RW.q rfl rfl (K.QR.k (v := .int .i64 ((k : Nat) : Int)) (by kernel_rfl)) ?_
                refine K.RW.q rfl rfl (K.QR.n64 (((-1) : Int) - (((k : Nat) : Int) : Int)) (((-1) : Int) - (((k : Nat) : Int) : Int)) (by kernel_rfl) (by omega)) ?_
                refine K.RW.q rfl rfl (K.QR.nice (v := .bool (((toldS c ((passing c).getD k nm0)) : Int) != (((-1) : Int) - (((k : Nat) : Int) : Int) : Int))) (by kernel_rfl) (congrArg Value.bool (bne_eq_false_iff_eq.2 (by exact told_pass (by assumption) (by omega) ⟨rfl, rfl, rfl⟩)))) ?_
                refine K.RW.nil ?_
                refine K.thn_normal ?_
                refine K.KW.ifF rfl ?_
                refine K.KW.skip ?_
                refine K.blk_normal ?_
                refine K.thn_normal ?_
                -- region 16 law.go:77
                refine K.KW.region ?_
                refine K.RW.q rfl rfl (K.QR.k (v := .int .i64 ((k : Nat) : Int)) (by kernel_rfl)) ?_
                refine K.RW.q rfl rfl (K.QR.n64 ((((k : Nat) : Int) : Int) + (1 : Int)) ((k + 1 : Nat) : Int) (by kernel_rfl) (by omega)) ?_
                refine K.RW.q rfl rfl (K.QR.k (v := .int .i64 ((k + 1 : Nat) : Int)) (by kernel_rfl)) ?_
                refine K.RW.nil ?_
                refine K.thn_normal ?_
                refine ⟨_, ?_, k + 1, rfl, ⟨by rfl, by rfl, by rfl, by rfl, trivial⟩, (by omega), c_163, f_165, f_166, f_167, f_168⟩
                omega
              ·  -- no
                refine K.RW.q rfl rfl (K.QR.nice (v := .bool (decide ((((k : Nat) : Int) : Int) < ((((passing c).length : Nat) : Int) : Int)))) (by kernel_rfl) (congrArg Value.bool (decide_eq_false h_156))) ?_
                refine K.RW.nil ?_
                refine K.thn_normal ?_
                refine K.KW.ifF rfl ?_
                refine K.KW.exit ?_
                refine K.thn_exit ?_
                refine K.thn_exit ?_
                refine K.blk_hit ?_
                refine K.thn_normal ?_
                refine K.KW.seq ?_
                -- region 19 law.go:82
                refine K.KW.region ?_
                refine K.RW.l rfl (K.OW.call rfl [] rfl rfl (by kernel_rfl) (awake06_ok _) ?_) 
                rintro _ w_170 ⟨rfl, c_169⟩
                have c_171 := c_149.no c_169
                have z_172 := c_171.size
                have f_173 := f_151.no c_169
                have f_174 := f_152.no c_169
                have f_175 := f_153.no c_169
                have f_176 := f_154.no c_169
                refine K.RW.q rfl rfl (K.QR.k (v := .bool true) (by kernel_rfl)) ?_
                refine K.RW.nil ?_
                refine K.thn_normal ?_
                refine K.KW.ret ?_
                refine ⟨.inr rfl, (.bool true), K.res1 rfl rfl, ?_⟩
                exact ⟨rfl, c_171⟩
      ·  -- False
        rw [hb_38] at hv_32; subst hv_32
        have hp_177 := of_decide_eq_false hb_38
        refine K.RW.q rfl rfl (K.QR.k (v := .bool true) (by kernel_rfl)) ?_
        refine K.RW.nil ?_
        refine K.thn_normal ?_
        refine K.KW.ifT rfl ?_
        refine K.KW.seq ?_
        -- region 5 law.go:66
        exfalso
        contradiction
    ·  -- none
      have c_178 := c_13.no c_25
      have z_179 := c_178.size
      have f_180 := f_15.no c_25
      refine K.RW.q rfl rfl (K.QR.k (v := .tuple #[.pointer none, .int .i64 1]) (by kernel_rfl)) ?_
      refine K.RW.q rfl rfl (K.QR.k (v := .pointer none) (by kernel_rfl)) ?_
      refine K.RW.q rfl rfl (K.QR.k (v := .int .i64 1) (by kernel_rfl)) ?_
      refine K.RW.q rfl rfl (K.QR.k (v := .pointer none) (by kernel_rfl)) ?_
      refine K.RW.q rfl rfl (K.QR.k (v := .int .i64 1) (by kernel_rfl)) ?_
      refine K.RW.nil ?_
      refine K.thn_normal ?_
      refine K.KW.seq ?_
      refine K.KW.seq ?_
      -- region 4 law.go:65
      refine K.KW.region ?_
      refine K.RW.q rfl rfl (K.QR.ldN [.int .i64 c.th, .int .i64 c.sl, .int .i64 c.lo, .int .i64 c.bu] rfl rfl (by kernel_rfl) (by kernel_rfl) (K.cells (K.cl (f_180.cell rfl) (K.cl (f_180.cell rfl) (K.cl (f_180.cell rfl) (K.cl (f_180.cell rfl) K.cl0)))))) ?_
      refine K.RW.l rfl (K.OW.call rfl [.agg #[.int .i64 c.th, .int .i64 c.sl, .int .i64 c.lo, .int .i64 c.bu]] rfl rfl (by kernel_rfl) (rright05_ok c _) ?_) 
      rintro v_184 w_182 ⟨hv_183, c_181⟩
      have c_185 := c_178.no c_181
      have z_186 := c_185.size
      have f_187 := f_180.no c_181
      rcases Bool.eq_false_or_eq_true (decide (cfgOk c)) with hb_188 | hb_188
      ·  -- True
        rw [hb_188] at hv_183; subst hv_183
        have hp_189 := of_decide_eq_true hb_188
        refine K.RW.q rfl rfl (K.QR.k (v := .bool false) (by kernel_rfl)) ?_
        refine K.RW.nil ?_
        refine K.thn_normal ?_
        refine K.KW.ifF rfl ?_
        refine K.KW.skip ?_
        refine K.thn_normal ?_
        refine K.KW.seq ?_
        -- region 6 law.go:68
        exfalso
        contradiction
      ·  -- False
        rw [hb_188] at hv_183; subst hv_183
        have hp_190 := of_decide_eq_false hb_188
        refine K.RW.q rfl rfl (K.QR.k (v := .bool true) (by kernel_rfl)) ?_
        refine K.RW.nil ?_
        refine K.thn_normal ?_
        refine K.KW.ifT rfl ?_
        refine K.KW.seq ?_
        -- region 5 law.go:66
        refine K.KW.region ?_
        refine K.RW.l rfl (K.OW.call rfl [] rfl rfl (by kernel_rfl) (awake06_ok _) ?_) 
        rintro _ w_192 ⟨rfl, c_191⟩
        have c_193 := c_185.no c_191
        have z_194 := c_193.size
        have f_195 := f_187.no c_191
        refine K.RW.q rfl rfl (K.QR.k (v := .bool true) (by kernel_rfl)) ?_
        refine K.RW.q rfl (by kernel_rfl) (K.QR.k (v := .int .i64 1) (by kernel_rfl)) ?_
        refine K.RW.q rfl (by kernel_rfl) (K.QR.k (v := .bool true) (by kernel_rfl)) ?_
        refine K.RW.q rfl rfl (K.QR.k (v := .bool true) (by kernel_rfl)) ?_
        refine K.RW.q rfl rfl (K.QR.k (v := .bool true) (by kernel_rfl)) ?_
        refine K.RW.q rfl (by kernel_rfl) (K.QR.k (v := .pointer none) (by kernel_rfl)) ?_
        refine K.RW.q rfl (by kernel_rfl) (K.QR.k (v := .bool true) (by kernel_rfl)) ?_
        refine K.RW.q rfl rfl (K.QR.k (v := .bool true) (by kernel_rfl)) ?_
        refine K.RW.q rfl rfl (K.QR.k (v := .bool true) (by kernel_rfl)) ?_
        refine K.RW.nil ?_
        refine K.thn_normal ?_
        refine K.KW.ret ?_
        refine K.thn_ret ?_
        refine ⟨.inr rfl, (.bool true), K.res1 rfl rfl, ?_⟩
        exact ⟨rfl, c_193⟩
  ·  -- False
    rw [hb_16] at hv_11; subst hv_11
    have hp_196 := of_decide_eq_false hb_16
    refine K.RW.q rfl rfl (K.QR.k (v := .bool true) (by kernel_rfl)) ?_
    refine K.RW.nil ?_
    refine K.thn_normal ?_
    refine K.KW.ifT rfl ?_
    refine K.KW.seq ?_
    -- region 2 law.go:62
    refine K.KW.region ?_
    refine K.RW.l rfl (K.OW.call rfl [] rfl rfl (by kernel_rfl) (awake06_ok _) ?_) 
    rintro _ w_198 ⟨rfl, c_197⟩
    have c_199 := c_13.no c_197
    have z_200 := c_199.size
    have f_201 := f_15.no c_197
    refine K.RW.q rfl rfl (K.QR.k (v := .bool true) (by kernel_rfl)) ?_
    refine K.RW.nil ?_
    refine K.thn_normal ?_
    refine K.KW.ret ?_
    refine K.thn_ret ?_
    refine ⟨.inr rfl, (.bool true), K.res1 rfl rfl, ?_⟩
    exact ⟨rfl, c_199⟩

end Go.Proofs.Ytcmlompigmhddaa
