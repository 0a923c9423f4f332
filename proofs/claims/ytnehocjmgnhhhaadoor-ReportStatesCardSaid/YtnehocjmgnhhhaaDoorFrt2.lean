import Derived.Test.YtnehocjmgnhhhaaDoorFrt
/- Reports: a state read out of a text: the code. -/
namespace Go.Proofs.YtnehocjmgnhhhaaDoor
open Go.RowKit
set_option linter.unusedVariables false
attribute [local irreducible] K.KW K.RW K.DW K.OW K.QR K.KC
set_option maxHeartbeats 1000000 in
set_option maxRecDepth 100000 in
theorem rvalue_ok (w0 : World) (l : List UInt8) (hl : l.length ≤ 1000000) :
    K.GC Tryd.prog w0 57 #[.string (K.sb l)] [] (fun v post => post = [] ∧ ((rdV l = some (numR l 4294967295) ∧ 0 ≤ numR l 4294967295 ∧ v = .tuple #[.int .u32 (numR l 4294967295), .bool true]) ∨ (rdV l = none ∧ numR l 4294967295 < 0 ∧ v = .tuple #[.int .u32 (u32R (numR l 4294967295)), .bool false]))) := by
  refine K.GC.mk (n := 11) Tryd.func57 rfl rfl [.string (K.sb l)] rfl rfl ?_
  intro fr w hS
  replace hS : K.Sat w0 [fr] w := hS
  refine K.KW.seq ?_
  -- 0 :183
  refine K.KW.region ?_
  refine K.RW.qs [.int .u32 0, .bool false] (by kernel_rfl) ?_
  refine K.RW.nil ?_
  refine K.thn_normal ?_
  refine K.KW.seq ?_
  -- 1 :184
  refine K.KW.region ?_
  refine K.RW.qs [.string (K.sb l)] (by kernel_rfl) ?_
  refine K.RW.l rfl (K.OW.gcall hS [] [0] [.string (K.sb l), .int .i64 4294967295] (number_ok _ l 4294967295 (by omega) (by omega)) ?_)
  clear hS; rintro _ _ w ⟨rfl, rfl⟩ hS
  replace hS : K.Sat w0 [fr] w := hS
  refine K.RW.qs [.int .i64 (numR l 4294967295)] (by kernel_rfl) ?_
  refine K.RW.nil ?_
  refine K.thn_normal ?_
  refine K.KW.seq ?_
  -- 2 :185
  refine K.KW.region ?_
  refine K.RW.qs [.int .i64 (numR l 4294967295), .int .u32 (IntKind.u32.wrap (numR l 4294967295)), .int .i64 (numR l 4294967295)] (by kernel_rfl) ?_
  by_cases h_1 : ((numR l 4294967295) : Int) ≥ (0 : Int)
  ·  -- yes
    refine K.RW.q rfl rfl (K.QR.nice (v := .bool (decide (((numR l 4294967295) : Int) ≥ (0 : Int)))) (by kernel_rfl) (congrArg Value.bool (decide_eq_true h_1))) ?_
    refine K.RW.qs [.int .u32 (IntKind.u32.wrap (numR l 4294967295)), .bool true] (by kernel_rfl) ?_
    refine K.RW.nil ?_
    refine K.thn_normal ?_
    refine K.KW.ret ?_
    refine ⟨.inr rfl, rfl, (.tuple #[.int .u32 (IntKind.u32.wrap (numR l 4294967295)), .bool true]), K.res2 rfl rfl rfl, [], ?_, hS.pick [0]⟩
    exact ⟨rfl, .inl ⟨by unfold rdV; rw [if_pos (by omega)], by omega, by show Value.tuple #[.int .u32 (u32R (numR l 4294967295)), _] = _; rw [u32R_of (by omega) (numR_le (by omega))]⟩⟩
  ·  -- no
    refine K.RW.q rfl rfl (K.QR.nice (v := .bool (decide (((numR l 4294967295) : Int) ≥ (0 : Int)))) (by kernel_rfl) (congrArg Value.bool (decide_eq_false h_1))) ?_
    refine K.RW.qs [.int .u32 (IntKind.u32.wrap (numR l 4294967295)), .bool false] (by kernel_rfl) ?_
    refine K.RW.nil ?_
    refine K.thn_normal ?_
    refine K.KW.ret ?_
    refine ⟨.inr rfl, rfl, (.tuple #[.int .u32 (IntKind.u32.wrap (numR l 4294967295)), .bool false]), K.res2 rfl rfl rfl, [], ?_, hS.pick [0]⟩
    exact ⟨rfl, .inr ⟨by unfold rdV; rw [if_neg (by omega)], by omega, rfl⟩⟩
set_option maxHeartbeats 4000000 in
set_option maxRecDepth 100000 in
theorem rpair_ok (w0 : World) (l : List UInt8) (hl : l.length ≤ 1000000) :
    K.GC Tryd.prog w0 59 #[.string (K.sb l)] [] (fun v post => post = [] ∧ ((∃ p, rdP l = some p ∧ v = .tuple #[.agg #[.int .u32 p.key, .int .u32 p.val], .bool true]) ∨ (rdP l = none ∧ ∃ x y, v = .tuple #[.agg #[.int .u32 x, .int .u32 y], .bool false]))) := by
  refine K.GC.mk (n := 37) Tryd.func59 rfl rfl [.string (K.sb l)] rfl rfl ?_
  intro fr w hS
  replace hS : K.Sat w0 [fr] w := hS
  refine K.KW.seq ?_
  -- 0 :188
  refine K.KW.region ?_
  refine K.RW.l rfl (K.OW.gnew 92 [.int .u32 0, .int .u32 0] hS ?_)
  clear hS; intro w r_1 g_2 hg_3 hS
  refine K.RW.qs [.bool false] (by kernel_rfl) ?_
  refine K.RW.nil ?_
  refine K.thn_normal ?_
  refine K.KW.seq ?_
  -- 1 :189
  refine K.KW.region ?_
  refine K.RW.qs [.string (K.sb l)] (by kernel_rfl) ?_
  refine K.RW.l rfl (K.OW.gcall hS [] [0, 1] [.string (K.sb l), .string (K.sb [61])] (cut_ok _ l 61 (by omega)) ?_)
  clear hS; rintro _ _ w ⟨rfl, rfl⟩ hS
  replace hS : K.Sat w0 [g_2, fr] w := hS
  refine K.RW.qs [.tuple #[.string (K.sb ((K.cutS 61 l).1)), .string (K.sb ((K.cutS 61 l).2.1)), .bool ((K.cutS 61 l).2.2)], .string (K.sb ((K.cutS 61 l).1)), .string (K.sb ((K.cutS 61 l).2.1)), .bool ((K.cutS 61 l).2.2), .string (K.sb ((K.cutS 61 l).1)), .string (K.sb ((K.cutS 61 l).2.1)), .bool ((K.cutS 61 l).2.2)] (by kernel_rfl) ?_
  refine K.RW.nil ?_
  refine K.thn_normal ?_
  refine K.KW.seq ?_
  -- 2 :190
  have hc1 : (K.cutS 61 l).1.length ≤ 1000000 ∧ (K.cutS 61 l).2.1.length ≤ 1000000 := by
    unfold K.cutS
    split
    · simp only [List.length_take, List.length_drop]; omega
    · simp only [List.length_nil]; omega
  refine K.KW.region ?_
  refine K.RW.qs [.string (K.sb ((K.cutS 61 l).1))] (by kernel_rfl) ?_
  refine K.RW.l rfl (K.OW.gcall hS [] [0, 1] [.string (K.sb ((K.cutS 61 l).1))] (rvalue_ok _ ((K.cutS 61 l).1) (by omega)) ?_)
  clear hS; rintro _ _ w ⟨rfl, (⟨h_4, q_5, rfl⟩ | ⟨h_6, q_7, rfl⟩)⟩ hS
  ·
    replace hS : K.Sat w0 [g_2, fr] w := hS
    refine K.RW.qs [.tuple #[.int .u32 (numR ((K.cutS 61 l).1) 4294967295), .bool true], .int .u32 (numR ((K.cutS 61 l).1) 4294967295), .bool true, .int .u32 (numR ((K.cutS 61 l).1) 4294967295), .bool true] (by kernel_rfl) ?_
    refine K.RW.nil ?_
    refine K.thn_normal ?_
    refine K.KW.seq ?_
    -- 3 :191
    refine K.KW.region ?_
    refine K.RW.qs [.string (K.sb ((K.cutS 61 l).2.1))] (by kernel_rfl) ?_
    refine K.RW.l rfl (K.OW.gcall hS [] [0, 1] [.string (K.sb ((K.cutS 61 l).2.1))] (rvalue_ok _ ((K.cutS 61 l).2.1) (by omega)) ?_)
    clear hS; rintro _ _ w ⟨rfl, (⟨h_8, q_9, rfl⟩ | ⟨h_10, q_11, rfl⟩)⟩ hS
    ·
      replace hS : K.Sat w0 [g_2, fr] w := hS
      refine K.RW.qs [.tuple #[.int .u32 (numR ((K.cutS 61 l).2.1) 4294967295), .bool true], .int .u32 (numR ((K.cutS 61 l).2.1) 4294967295), .bool true, .int .u32 (numR ((K.cutS 61 l).2.1) 4294967295), .bool true] (by kernel_rfl) ?_
      refine K.RW.nil ?_
      refine K.thn_normal ?_
      refine K.KW.seq ?_
      -- 4 :192
      refine K.KW.region ?_
      refine K.RW.qs [.int .u32 (numR ((K.cutS 61 l).1) 4294967295), .int .u32 (numR ((K.cutS 61 l).2.1) 4294967295)] (by kernel_rfl) ?_
      refine K.RW.q rfl rfl (K.QR.bd [(0, .int .u32 (numR ((K.cutS 61 l).1) 4294967295)), (1, .int .u32 (numR ((K.cutS 61 l).2.1) 4294967295))] [.int .u32 (numR ((K.cutS 61 l).1) 4294967295), .int .u32 (numR ((K.cutS 61 l).2.1) 4294967295)] rfl rfl (by kernel_rfl)) ?_
      refine K.RW.qs [.bool ((K.cutS 61 l).2.2)] (by kernel_rfl) ?_
      cases hb_12 : (K.cutS 61 l).2.2
      ·
        refine K.RW.qs [.bool false] (by kernel_rfl) ?_
        refine K.RW.skip rfl (by kernel_rfl) ?_
        refine K.RW.qs [.bool false, .bool false] (by kernel_rfl) ?_
        refine K.RW.skip rfl (by kernel_rfl) ?_
        refine K.RW.qs [.bool false] (by kernel_rfl) ?_
        refine K.RW.l rfl (K.OW.gst 0 [.int .u32 (numR ((K.cutS 61 l).1) 4294967295), .int .u32 (numR ((K.cutS 61 l).2.1) 4294967295)] [.int .u32 (numR ((K.cutS 61 l).1) 4294967295), .int .u32 (numR ((K.cutS 61 l).2.1) 4294967295)] hS hg_3 ?_)
        clear hS; intro w g_13 hg_14 hS
        replace hS : K.Sat w0 [g_13, fr] w := hS
        refine K.RW.qs [.bool false] (by kernel_rfl) ?_
        refine K.RW.nil ?_
        refine K.thn_normal ?_
        refine K.KW.ret ?_
        refine ⟨.inr rfl, rfl, (.tuple #[.agg #[.int .u32 (numR ((K.cutS 61 l).1) 4294967295), .int .u32 (numR ((K.cutS 61 l).2.1) 4294967295)], .bool false]), K.resAt (rs := [.cell 2 92, .tmp 3]) [.agg #[.int .u32 (numR ((K.cutS 61 l).1) 4294967295), .int .u32 (numR ((K.cutS 61 l).2.1) 4294967295)], .bool false] rfl ⟨⟨_, rfl, K.lvN [.int .u32 (numR ((K.cutS 61 l).1) 4294967295), .int .u32 (numR ((K.cutS 61 l).2.1) 4294967295)] (by kernel_rfl) (by kernel_rfl) (K.cells (K.cl ((hS.blk 0 rfl hg_14).cell rfl) (K.cl ((hS.blk 0 rfl hg_14).cell rfl) K.cl0)))⟩, rfl, trivial⟩, [], ?_, hS.pick [1]⟩
        refine ⟨rfl, .inr ⟨?_, _, _, rfl⟩⟩
        unfold rdP
        refine if_neg fun hh => ?_
        first | (have := hh.2.1; omega) | (have := hh.2.2; omega) | (have h9 := hh.1; simp_all)
      ·
        refine K.RW.qs [.bool true, .bool true, .bool true, .bool true, .bool true, .bool true] (by kernel_rfl) ?_
        refine K.RW.l rfl (K.OW.gst 0 [.int .u32 (numR ((K.cutS 61 l).1) 4294967295), .int .u32 (numR ((K.cutS 61 l).2.1) 4294967295)] [.int .u32 (numR ((K.cutS 61 l).1) 4294967295), .int .u32 (numR ((K.cutS 61 l).2.1) 4294967295)] hS hg_3 ?_)
        clear hS; intro w g_15 hg_16 hS
        replace hS : K.Sat w0 [g_15, fr] w := hS
        refine K.RW.qs [.bool true] (by kernel_rfl) ?_
        refine K.RW.nil ?_
        refine K.thn_normal ?_
        refine K.KW.ret ?_
        refine ⟨.inr rfl, rfl, (.tuple #[.agg #[.int .u32 (numR ((K.cutS 61 l).1) 4294967295), .int .u32 (numR ((K.cutS 61 l).2.1) 4294967295)], .bool true]), K.resAt (rs := [.cell 2 92, .tmp 3]) [.agg #[.int .u32 (numR ((K.cutS 61 l).1) 4294967295), .int .u32 (numR ((K.cutS 61 l).2.1) 4294967295)], .bool true] rfl ⟨⟨_, rfl, K.lvN [.int .u32 (numR ((K.cutS 61 l).1) 4294967295), .int .u32 (numR ((K.cutS 61 l).2.1) 4294967295)] (by kernel_rfl) (by kernel_rfl) (K.cells (K.cl ((hS.blk 0 rfl hg_16).cell rfl) (K.cl ((hS.blk 0 rfl hg_16).cell rfl) K.cl0)))⟩, rfl, trivial⟩, [], ?_, hS.pick [1]⟩
        exact ⟨rfl, .inl ⟨_, by unfold rdP; exact if_pos ⟨by assumption, by omega, by omega⟩, rfl⟩⟩
    ·
      replace hS : K.Sat w0 [g_2, fr] w := hS
      refine K.RW.qs [.tuple #[.int .u32 (u32R (numR ((K.cutS 61 l).2.1) 4294967295)), .bool false], .int .u32 (u32R (numR ((K.cutS 61 l).2.1) 4294967295)), .bool false, .int .u32 (u32R (numR ((K.cutS 61 l).2.1) 4294967295)), .bool false] (by kernel_rfl) ?_
      refine K.RW.nil ?_
      refine K.thn_normal ?_
      refine K.KW.seq ?_
      -- 4 :192
      refine K.KW.region ?_
      refine K.RW.qs [.int .u32 (numR ((K.cutS 61 l).1) 4294967295), .int .u32 (u32R (numR ((K.cutS 61 l).2.1) 4294967295))] (by kernel_rfl) ?_
      refine K.RW.q rfl rfl (K.QR.bd [(0, .int .u32 (numR ((K.cutS 61 l).1) 4294967295)), (1, .int .u32 (u32R (numR ((K.cutS 61 l).2.1) 4294967295)))] [.int .u32 (numR ((K.cutS 61 l).1) 4294967295), .int .u32 (u32R (numR ((K.cutS 61 l).2.1) 4294967295))] rfl rfl (by kernel_rfl)) ?_
      refine K.RW.qs [.bool ((K.cutS 61 l).2.2)] (by kernel_rfl) ?_
      cases hb_17 : (K.cutS 61 l).2.2
      ·
        refine K.RW.qs [.bool false] (by kernel_rfl) ?_
        refine K.RW.skip rfl (by kernel_rfl) ?_
        refine K.RW.qs [.bool false, .bool false] (by kernel_rfl) ?_
        refine K.RW.skip rfl (by kernel_rfl) ?_
        refine K.RW.qs [.bool false] (by kernel_rfl) ?_
        refine K.RW.l rfl (K.OW.gst 0 [.int .u32 (numR ((K.cutS 61 l).1) 4294967295), .int .u32 (u32R (numR ((K.cutS 61 l).2.1) 4294967295))] [.int .u32 (numR ((K.cutS 61 l).1) 4294967295), .int .u32 (u32R (numR ((K.cutS 61 l).2.1) 4294967295))] hS hg_3 ?_)
        clear hS; intro w g_18 hg_19 hS
        replace hS : K.Sat w0 [g_18, fr] w := hS
        refine K.RW.qs [.bool false] (by kernel_rfl) ?_
        refine K.RW.nil ?_
        refine K.thn_normal ?_
        refine K.KW.ret ?_
        refine ⟨.inr rfl, rfl, (.tuple #[.agg #[.int .u32 (numR ((K.cutS 61 l).1) 4294967295), .int .u32 (u32R (numR ((K.cutS 61 l).2.1) 4294967295))], .bool false]), K.resAt (rs := [.cell 2 92, .tmp 3]) [.agg #[.int .u32 (numR ((K.cutS 61 l).1) 4294967295), .int .u32 (u32R (numR ((K.cutS 61 l).2.1) 4294967295))], .bool false] rfl ⟨⟨_, rfl, K.lvN [.int .u32 (numR ((K.cutS 61 l).1) 4294967295), .int .u32 (u32R (numR ((K.cutS 61 l).2.1) 4294967295))] (by kernel_rfl) (by kernel_rfl) (K.cells (K.cl ((hS.blk 0 rfl hg_19).cell rfl) (K.cl ((hS.blk 0 rfl hg_19).cell rfl) K.cl0)))⟩, rfl, trivial⟩, [], ?_, hS.pick [1]⟩
        refine ⟨rfl, .inr ⟨?_, _, _, rfl⟩⟩
        unfold rdP
        refine if_neg fun hh => ?_
        first | (have := hh.2.1; omega) | (have := hh.2.2; omega) | (have h9 := hh.1; simp_all)
      ·
        refine K.RW.qs [.bool true, .bool true, .bool true, .bool true, .bool false, .bool false] (by kernel_rfl) ?_
        refine K.RW.l rfl (K.OW.gst 0 [.int .u32 (numR ((K.cutS 61 l).1) 4294967295), .int .u32 (u32R (numR ((K.cutS 61 l).2.1) 4294967295))] [.int .u32 (numR ((K.cutS 61 l).1) 4294967295), .int .u32 (u32R (numR ((K.cutS 61 l).2.1) 4294967295))] hS hg_3 ?_)
        clear hS; intro w g_20 hg_21 hS
        replace hS : K.Sat w0 [g_20, fr] w := hS
        refine K.RW.qs [.bool false] (by kernel_rfl) ?_
        refine K.RW.nil ?_
        refine K.thn_normal ?_
        refine K.KW.ret ?_
        refine ⟨.inr rfl, rfl, (.tuple #[.agg #[.int .u32 (numR ((K.cutS 61 l).1) 4294967295), .int .u32 (u32R (numR ((K.cutS 61 l).2.1) 4294967295))], .bool false]), K.resAt (rs := [.cell 2 92, .tmp 3]) [.agg #[.int .u32 (numR ((K.cutS 61 l).1) 4294967295), .int .u32 (u32R (numR ((K.cutS 61 l).2.1) 4294967295))], .bool false] rfl ⟨⟨_, rfl, K.lvN [.int .u32 (numR ((K.cutS 61 l).1) 4294967295), .int .u32 (u32R (numR ((K.cutS 61 l).2.1) 4294967295))] (by kernel_rfl) (by kernel_rfl) (K.cells (K.cl ((hS.blk 0 rfl hg_21).cell rfl) (K.cl ((hS.blk 0 rfl hg_21).cell rfl) K.cl0)))⟩, rfl, trivial⟩, [], ?_, hS.pick [1]⟩
        refine ⟨rfl, .inr ⟨?_, _, _, rfl⟩⟩
        unfold rdP
        refine if_neg fun hh => ?_
        first | (have := hh.2.1; omega) | (have := hh.2.2; omega) | (have h9 := hh.1; simp_all)
  ·
    replace hS : K.Sat w0 [g_2, fr] w := hS
    refine K.RW.qs [.tuple #[.int .u32 (u32R (numR ((K.cutS 61 l).1) 4294967295)), .bool false], .int .u32 (u32R (numR ((K.cutS 61 l).1) 4294967295)), .bool false, .int .u32 (u32R (numR ((K.cutS 61 l).1) 4294967295)), .bool false] (by kernel_rfl) ?_
    refine K.RW.nil ?_
    refine K.thn_normal ?_
    refine K.KW.seq ?_
    -- 3 :191
    refine K.KW.region ?_
    refine K.RW.qs [.string (K.sb ((K.cutS 61 l).2.1))] (by kernel_rfl) ?_
    refine K.RW.l rfl (K.OW.gcall hS [] [0, 1] [.string (K.sb ((K.cutS 61 l).2.1))] (rvalue_ok _ ((K.cutS 61 l).2.1) (by omega)) ?_)
    clear hS; rintro _ _ w ⟨rfl, (⟨h_22, q_23, rfl⟩ | ⟨h_24, q_25, rfl⟩)⟩ hS
    ·
      replace hS : K.Sat w0 [g_2, fr] w := hS
      refine K.RW.qs [.tuple #[.int .u32 (numR ((K.cutS 61 l).2.1) 4294967295), .bool true], .int .u32 (numR ((K.cutS 61 l).2.1) 4294967295), .bool true, .int .u32 (numR ((K.cutS 61 l).2.1) 4294967295), .bool true] (by kernel_rfl) ?_
      refine K.RW.nil ?_
      refine K.thn_normal ?_
      refine K.KW.seq ?_
      -- 4 :192
      refine K.KW.region ?_
      refine K.RW.qs [.int .u32 (u32R (numR ((K.cutS 61 l).1) 4294967295)), .int .u32 (numR ((K.cutS 61 l).2.1) 4294967295)] (by kernel_rfl) ?_
      refine K.RW.q rfl rfl (K.QR.bd [(0, .int .u32 (u32R (numR ((K.cutS 61 l).1) 4294967295))), (1, .int .u32 (numR ((K.cutS 61 l).2.1) 4294967295))] [.int .u32 (u32R (numR ((K.cutS 61 l).1) 4294967295)), .int .u32 (numR ((K.cutS 61 l).2.1) 4294967295)] rfl rfl (by kernel_rfl)) ?_
      refine K.RW.qs [.bool ((K.cutS 61 l).2.2)] (by kernel_rfl) ?_
      cases hb_26 : (K.cutS 61 l).2.2
      ·
        refine K.RW.qs [.bool false] (by kernel_rfl) ?_
        refine K.RW.skip rfl (by kernel_rfl) ?_
        refine K.RW.qs [.bool false, .bool false] (by kernel_rfl) ?_
        refine K.RW.skip rfl (by kernel_rfl) ?_
        refine K.RW.qs [.bool false] (by kernel_rfl) ?_
        refine K.RW.l rfl (K.OW.gst 0 [.int .u32 (u32R (numR ((K.cutS 61 l).1) 4294967295)), .int .u32 (numR ((K.cutS 61 l).2.1) 4294967295)] [.int .u32 (u32R (numR ((K.cutS 61 l).1) 4294967295)), .int .u32 (numR ((K.cutS 61 l).2.1) 4294967295)] hS hg_3 ?_)
        clear hS; intro w g_27 hg_28 hS
        replace hS : K.Sat w0 [g_27, fr] w := hS
        refine K.RW.qs [.bool false] (by kernel_rfl) ?_
        refine K.RW.nil ?_
        refine K.thn_normal ?_
        refine K.KW.ret ?_
        refine ⟨.inr rfl, rfl, (.tuple #[.agg #[.int .u32 (u32R (numR ((K.cutS 61 l).1) 4294967295)), .int .u32 (numR ((K.cutS 61 l).2.1) 4294967295)], .bool false]), K.resAt (rs := [.cell 2 92, .tmp 3]) [.agg #[.int .u32 (u32R (numR ((K.cutS 61 l).1) 4294967295)), .int .u32 (numR ((K.cutS 61 l).2.1) 4294967295)], .bool false] rfl ⟨⟨_, rfl, K.lvN [.int .u32 (u32R (numR ((K.cutS 61 l).1) 4294967295)), .int .u32 (numR ((K.cutS 61 l).2.1) 4294967295)] (by kernel_rfl) (by kernel_rfl) (K.cells (K.cl ((hS.blk 0 rfl hg_28).cell rfl) (K.cl ((hS.blk 0 rfl hg_28).cell rfl) K.cl0)))⟩, rfl, trivial⟩, [], ?_, hS.pick [1]⟩
        refine ⟨rfl, .inr ⟨?_, _, _, rfl⟩⟩
        unfold rdP
        refine if_neg fun hh => ?_
        first | (have := hh.2.1; omega) | (have := hh.2.2; omega) | (have h9 := hh.1; simp_all)
      ·
        refine K.RW.qs [.bool true, .bool false, .bool false, .bool false] (by kernel_rfl) ?_
        refine K.RW.skip rfl (by kernel_rfl) ?_
        refine K.RW.qs [.bool false] (by kernel_rfl) ?_
        refine K.RW.l rfl (K.OW.gst 0 [.int .u32 (u32R (numR ((K.cutS 61 l).1) 4294967295)), .int .u32 (numR ((K.cutS 61 l).2.1) 4294967295)] [.int .u32 (u32R (numR ((K.cutS 61 l).1) 4294967295)), .int .u32 (numR ((K.cutS 61 l).2.1) 4294967295)] hS hg_3 ?_)
        clear hS; intro w g_29 hg_30 hS
        replace hS : K.Sat w0 [g_29, fr] w := hS
        refine K.RW.qs [.bool false] (by kernel_rfl) ?_
        refine K.RW.nil ?_
        refine K.thn_normal ?_
        refine K.KW.ret ?_
        refine ⟨.inr rfl, rfl, (.tuple #[.agg #[.int .u32 (u32R (numR ((K.cutS 61 l).1) 4294967295)), .int .u32 (numR ((K.cutS 61 l).2.1) 4294967295)], .bool false]), K.resAt (rs := [.cell 2 92, .tmp 3]) [.agg #[.int .u32 (u32R (numR ((K.cutS 61 l).1) 4294967295)), .int .u32 (numR ((K.cutS 61 l).2.1) 4294967295)], .bool false] rfl ⟨⟨_, rfl, K.lvN [.int .u32 (u32R (numR ((K.cutS 61 l).1) 4294967295)), .int .u32 (numR ((K.cutS 61 l).2.1) 4294967295)] (by kernel_rfl) (by kernel_rfl) (K.cells (K.cl ((hS.blk 0 rfl hg_30).cell rfl) (K.cl ((hS.blk 0 rfl hg_30).cell rfl) K.cl0)))⟩, rfl, trivial⟩, [], ?_, hS.pick [1]⟩
        refine ⟨rfl, .inr ⟨?_, _, _, rfl⟩⟩
        unfold rdP
        refine if_neg fun hh => ?_
        first | (have := hh.2.1; omega) | (have := hh.2.2; omega) | (have h9 := hh.1; simp_all)
    ·
      replace hS : K.Sat w0 [g_2, fr] w := hS
      refine K.RW.qs [.tuple #[.int .u32 (u32R (numR ((K.cutS 61 l).2.1) 4294967295)), .bool false], .int .u32 (u32R (numR ((K.cutS 61 l).2.1) 4294967295)), .bool false, .int .u32 (u32R (numR ((K.cutS 61 l).2.1) 4294967295)), .bool false] (by kernel_rfl) ?_
      refine K.RW.nil ?_
      refine K.thn_normal ?_
      refine K.KW.seq ?_
      -- 4 :192
      refine K.KW.region ?_
      refine K.RW.qs [.int .u32 (u32R (numR ((K.cutS 61 l).1) 4294967295)), .int .u32 (u32R (numR ((K.cutS 61 l).2.1) 4294967295))] (by kernel_rfl) ?_
      refine K.RW.q rfl rfl (K.QR.bd [(0, .int .u32 (u32R (numR ((K.cutS 61 l).1) 4294967295))), (1, .int .u32 (u32R (numR ((K.cutS 61 l).2.1) 4294967295)))] [.int .u32 (u32R (numR ((K.cutS 61 l).1) 4294967295)), .int .u32 (u32R (numR ((K.cutS 61 l).2.1) 4294967295))] rfl rfl (by kernel_rfl)) ?_
      refine K.RW.qs [.bool ((K.cutS 61 l).2.2)] (by kernel_rfl) ?_
      cases hb_31 : (K.cutS 61 l).2.2
      ·
        refine K.RW.qs [.bool false] (by kernel_rfl) ?_
        refine K.RW.skip rfl (by kernel_rfl) ?_
        refine K.RW.qs [.bool false, .bool false] (by kernel_rfl) ?_
        refine K.RW.skip rfl (by kernel_rfl) ?_
        refine K.RW.qs [.bool false] (by kernel_rfl) ?_
        refine K.RW.l rfl (K.OW.gst 0 [.int .u32 (u32R (numR ((K.cutS 61 l).1) 4294967295)), .int .u32 (u32R (numR ((K.cutS 61 l).2.1) 4294967295))] [.int .u32 (u32R (numR ((K.cutS 61 l).1) 4294967295)), .int .u32 (u32R (numR ((K.cutS 61 l).2.1) 4294967295))] hS hg_3 ?_)
        clear hS; intro w g_32 hg_33 hS
        replace hS : K.Sat w0 [g_32, fr] w := hS
        refine K.RW.qs [.bool false] (by kernel_rfl) ?_
        refine K.RW.nil ?_
        refine K.thn_normal ?_
        refine K.KW.ret ?_
        refine ⟨.inr rfl, rfl, (.tuple #[.agg #[.int .u32 (u32R (numR ((K.cutS 61 l).1) 4294967295)), .int .u32 (u32R (numR ((K.cutS 61 l).2.1) 4294967295))], .bool false]), K.resAt (rs := [.cell 2 92, .tmp 3]) [.agg #[.int .u32 (u32R (numR ((K.cutS 61 l).1) 4294967295)), .int .u32 (u32R (numR ((K.cutS 61 l).2.1) 4294967295))], .bool false] rfl ⟨⟨_, rfl, K.lvN [.int .u32 (u32R (numR ((K.cutS 61 l).1) 4294967295)), .int .u32 (u32R (numR ((K.cutS 61 l).2.1) 4294967295))] (by kernel_rfl) (by kernel_rfl) (K.cells (K.cl ((hS.blk 0 rfl hg_33).cell rfl) (K.cl ((hS.blk 0 rfl hg_33).cell rfl) K.cl0)))⟩, rfl, trivial⟩, [], ?_, hS.pick [1]⟩
        refine ⟨rfl, .inr ⟨?_, _, _, rfl⟩⟩
        unfold rdP
        refine if_neg fun hh => ?_
        first | (have := hh.2.1; omega) | (have := hh.2.2; omega) | (have h9 := hh.1; simp_all)
      ·
        refine K.RW.qs [.bool true, .bool false, .bool false, .bool false] (by kernel_rfl) ?_
        refine K.RW.skip rfl (by kernel_rfl) ?_
        refine K.RW.qs [.bool false] (by kernel_rfl) ?_
        refine K.RW.l rfl (K.OW.gst 0 [.int .u32 (u32R (numR ((K.cutS 61 l).1) 4294967295)), .int .u32 (u32R (numR ((K.cutS 61 l).2.1) 4294967295))] [.int .u32 (u32R (numR ((K.cutS 61 l).1) 4294967295)), .int .u32 (u32R (numR ((K.cutS 61 l).2.1) 4294967295))] hS hg_3 ?_)
        clear hS; intro w g_34 hg_35 hS
        replace hS : K.Sat w0 [g_34, fr] w := hS
        refine K.RW.qs [.bool false] (by kernel_rfl) ?_
        refine K.RW.nil ?_
        refine K.thn_normal ?_
        refine K.KW.ret ?_
        refine ⟨.inr rfl, rfl, (.tuple #[.agg #[.int .u32 (u32R (numR ((K.cutS 61 l).1) 4294967295)), .int .u32 (u32R (numR ((K.cutS 61 l).2.1) 4294967295))], .bool false]), K.resAt (rs := [.cell 2 92, .tmp 3]) [.agg #[.int .u32 (u32R (numR ((K.cutS 61 l).1) 4294967295)), .int .u32 (u32R (numR ((K.cutS 61 l).2.1) 4294967295))], .bool false] rfl ⟨⟨_, rfl, K.lvN [.int .u32 (u32R (numR ((K.cutS 61 l).1) 4294967295)), .int .u32 (u32R (numR ((K.cutS 61 l).2.1) 4294967295))] (by kernel_rfl) (by kernel_rfl) (K.cells (K.cl ((hS.blk 0 rfl hg_35).cell rfl) (K.cl ((hS.blk 0 rfl hg_35).cell rfl) K.cl0)))⟩, rfl, trivial⟩, [], ?_, hS.pick [1]⟩
        refine ⟨rfl, .inr ⟨?_, _, _, rfl⟩⟩
        unfold rdP
        refine if_neg fun hh => ?_
        first | (have := hh.2.1; omega) | (have := hh.2.2; omega) | (have h9 := hh.1; simp_all)
set_option maxHeartbeats 4000000 in
set_option maxRecDepth 100000 in
theorem rrowU_ok (w0 : World) (l nm : List UInt8) (hl : l.length ≤ 1000000) :
    K.GC Tryd.prog w0 56 #[.string (K.sb l), .string (K.sb nm), .func (.func 57) [].toArray [].toArray] [] (fun v post => (∃ L r c g, rdRow nm rdV l = some L ∧ post = [g] ∧ v = .tuple #[.slice r L.length c, .bool true] ∧ K.OwnG g 23 1 r L.length c (L.flatMap cU32)) ∨ (rdRow nm rdV l = none ∧ post = [] ∧ v = .tuple #[.slice none 0 0, .bool false])) := by
  refine K.GC.mk (n := 42) Tryd.func56 rfl rfl [.string (K.sb l), .string (K.sb nm), .func (.func 57) [].toArray [].toArray] rfl rfl ?_
  intro fr w hS
  replace hS : K.Sat w0 [fr] w := hS
  refine K.KW.seq ?_
  -- 0 :166
  refine K.KW.region ?_
  refine K.RW.qs [.slice none 0 0, .bool false] (by kernel_rfl) ?_
  refine K.RW.nil ?_
  refine K.thn_normal ?_
  refine K.KW.seq ?_
  -- 1 :167
  refine K.KW.region ?_
  refine K.RW.qs [.string (K.sb l)] (by kernel_rfl) ?_
  refine K.RW.l rfl (K.OW.gcall hS [] [0] [.string (K.sb l), .string (K.sb [32])] (split_ok _ l 32 (by omega)) ?_)
  clear hS; rintro _ _ w ⟨r_1, g_2, rfl, rfl, o_3⟩ hS
  replace hS : K.Sat w0 [g_2, fr] w := hS
  refine K.RW.qs [.slice (some ⟨r_1, 0, none⟩) ((K.spl 32 l).length) ((K.spl 32 l).length)] (by kernel_rfl) ?_
  refine K.RW.nil ?_
  refine K.thn_normal ?_
  refine K.KW.seq ?_
  refine K.KW.seq ?_
  -- 2 :168
  have hsl := K.spl_len 32 l
  have hw0 : 0 < (K.spl 32 l).length := by omega
  have hcl : l.count 32 ≤ l.length := List.count_le_length
  refine K.KW.region ?_
  refine K.RW.qs [.slice (some ⟨r_1, 0, none⟩) ((K.spl 32 l).length) ((K.spl 32 l).length)] (by kernel_rfl) ?_
  refine K.RW.q rfl rfl (K.QR.ix 0 1 rfl rfl rfl Tryd.underlying68 (by kernel_rfl) (by omega) (by first | (simp; done) | omega | (simp; omega))) ?_
  refine K.RW.q rfl rfl (K.QR.ld1 (v := .string (K.sb ((K.spl 32 l).getD 0 []))) rfl rfl (by kernel_rfl) (K.Own.atS (c := K.cStr) (d := []) (fun _ => rfl) (hS.ownr 0 rfl o_3) rfl 0 (by omega))) ?_
  refine K.RW.qs [.string (K.sb nm)] (by kernel_rfl) ?_
  by_cases h_4 : ((K.spl 32 l).getD 0 []) = nm
  ·  -- yes
    refine K.RW.q rfl rfl (K.QR.sNe (xs := (K.spl 32 l).getD 0 []) (ys := nm) false rfl rfl rfl (K.ndeq_t h_4)) ?_
    refine K.RW.nil ?_
    refine K.thn_normal ?_
    refine K.KW.ifF rfl ?_
    refine K.KW.skip ?_
    refine K.thn_normal ?_
    refine K.KW.seq ?_
    -- 4 :171
    refine K.KW.region ?_
    refine K.RW.qs [.slice none 0 0] (by kernel_rfl) ?_
    refine K.RW.nil ?_
    refine K.thn_normal ?_
    refine K.KW.seq ?_
    refine K.KW.seq ?_
    -- 5 :172
    have hnm : (K.spl 32 l).getD 0 [] = nm := by assumption
    refine K.KW.region ?_
    refine K.RW.qs [.slice (some ⟨r_1, 0, none⟩) ((K.spl 32 l).length) ((K.spl 32 l).length)] (by kernel_rfl) ?_
    have hr_7 : ∀ w, K.Sat w0 [g_2] w → K.RowE w (some ⟨r_1, 0, none⟩) (K.spl 32 l).length 1 (fun i => K.cStr ((K.spl 32 l).getD i [])) := fun w h => K.RowE.len (K.Own.rowE [] (h.ownr 0 rfl o_3) rfl (fun _ => rfl)) rfl
    obtain ⟨as_8, has_9⟩ : ∃ q, q = K.shift (some ⟨r_1, 0, none⟩) ((K.spl 32 l).length) 1 1 := ⟨_, rfl⟩
    have x_5 : ∀ w, K.Sat w0 [g_2] w → K.RowE w as_8 ((K.spl 32 l).drop 1).length 1 (fun i => K.cStr (((K.spl 32 l).drop 1).getD i [])) := fun w h => has_9 ▸ K.RowE.drop (c := K.cStr) (d := []) (L := (K.spl 32 l)) (cap := ((K.spl 32 l).length)) (hr_7 w h) 1 (by first | omega | (simp; done) | (simp; omega)) (o_3.le.1)
    have n_6 : ((K.spl 32 l).drop 1).length = (K.spl 32 l).length - 1 := List.length_drop
    refine K.RW.q rfl rfl (K.QR.turn (v' := .slice as_8 (((K.spl 32 l).drop 1).length) ((K.spl 32 l).length - 1)) (K.QR.slLo (size := 1) (m := ((K.spl 32 l).length)) (k := (((K.spl 32 l).drop 1).length)) 1 rfl rfl rfl Tryd.underlying68 (by kernel_rfl) (by first | omega | (simp; done) | (simp; omega)) (by first | omega | (simp; done) | (simp; omega))) (by rw [has_9])) ?_
    refine K.RW.q rfl rfl (K.QR.len (P := Tryd.prog) rfl rfl Tryd.underlying68) ?_
    refine K.RW.qs [.int .i64 0] (by kernel_rfl) ?_
    refine K.RW.nil ?_
    refine K.thn_normal ?_
    refine K.KW.block ?_
    obtain ⟨z_10, hz_11⟩ : ∃ z : K.Cs, z = [] := ⟨_, rfl⟩
    replace hS : K.Sat w0 [z_10, g_2, fr] w := hS.of (by simp [hz_11])
    have o_12 : K.OwnG z_10 23 1 none 0 0 [] := by rw [hz_11]; exact K.OwnG.nil _ _
    refine K.KW.loop (fun m_ F_ w_ => ∃ (j : Nat) (o : List Int) (q1 : Option Addr) (c1 : Nat) (o1 : K.Cs), m_ = ((K.spl 32 l).drop 1).length - j ∧ K.Sl F_ [(0, .string (K.sb l)), (1, .string (K.sb nm)), (2, .func (.func 57) [].toArray [].toArray), (9, .slice q1 o.length c1), (22, .slice as_8 (((K.spl 32 l).drop 1).length) ((K.spl 32 l).length - 1)), (23, .int .i64 ((((K.spl 32 l).drop 1).length : Nat) : Int)), (24, .int .i64 ((j : Nat) : Int)), (42, undef)] ∧ j ≤ ((K.spl 32 l).drop 1).length ∧ mapO rdV (((K.spl 32 l).drop 1).take j) = some o ∧ o.length ≤ j ∧ K.OwnG o1 23 1 q1 o.length c1 ((o).flatMap cU32) ∧ K.Sat w0 [o1, g_2, fr] w_) ((fun (j : Nat) (o : List Int) (q1 : Option Addr) (c1 : Nat) => ((K.spl 32 l).drop 1).length - j) 0 [] none 0) ?_ ?_
    · -- begins
      exact ⟨0, [], none, 0, z_10, rfl, ⟨by rfl, by rfl, by rfl, by rfl, by rfl, by rfl, by rfl, by rfl, trivial⟩, (by omega), (rfl), (by exact Nat.le_refl 0), o_12, hS.pick [0, 1, 2]⟩
    · -- a round
      clear hS
      intro m_13 F_14 w hI
      obtain ⟨j, o, q1, c1, o1, rfl, sl_15, p_16, hmo, p_17, x_18, hS⟩ := hI
      rw [← K.Sl.puts sl_15]; clear sl_15
      refine K.KW.seq ?_
      -- 6 :172
      refine K.KW.region ?_
      by_cases h_19 : (((j : Nat) : Int) : Int) < (((((K.spl 32 l).drop 1).length : Nat) : Int) : Int)
      ·  -- yes
        refine K.RW.q rfl rfl (K.QR.nice (v := .bool (decide ((((j : Nat) : Int) : Int) < (((((K.spl 32 l).drop 1).length : Nat) : Int) : Int)))) (by kernel_rfl) (congrArg Value.bool (decide_eq_true h_19))) ?_
        refine K.RW.nil ?_
        refine K.thn_normal ?_
        refine K.KW.seq ?_
        refine K.KW.ifT rfl ?_
        refine K.KW.skip ?_
        refine K.thn_normal ?_
        refine K.KW.seq ?_
        refine K.KW.block ?_
        refine K.KW.seq ?_
        -- 7 :172
        obtain ⟨b_20, of_21, rfl, _⟩ := (x_5 _ (hS.pick [1])).at_ (by omega)
        have hgl : (((K.spl 32 l).drop 1).getD j []).length ≤ 1000000 := by
          have h9 := K.getD_spl_len 32 l (1 + j)
          have e : ((K.spl 32 l).drop 1).getD j [] = (K.spl 32 l).getD (1 + j) [] := by rw [List.getD_eq_getElem?_getD, List.getD_eq_getElem?_getD, List.getElem?_drop]
          rw [e]; omega
        refine K.KW.region ?_
        refine K.RW.q rfl rfl (K.QR.ix (of_21 + j * 1) 1 rfl rfl rfl Tryd.underlying68 (by kernel_rfl) (by omega) (by first | (simp; done) | omega | (simp; omega))) ?_
        refine K.RW.q rfl rfl (K.QR.ld1 (v := .string (K.sb (((K.spl 32 l).drop 1).getD j []))) rfl rfl (by kernel_rfl) ((x_5 _ (hS.pick [1])).ld j (by omega) 0 _ rfl)) ?_
        refine K.RW.qs [.string (K.sb (((K.spl 32 l).drop 1).getD j []))] (by kernel_rfl) ?_
        refine K.RW.nil ?_
        refine K.thn_normal ?_
        refine K.KW.seq ?_
        -- 8 :173
        refine K.KW.region ?_
        refine K.RW.qs [.func (.func 57) [].toArray [].toArray, .string (K.sb (((K.spl 32 l).drop 1).getD j []))] (by kernel_rfl) ?_
        refine K.RW.l rfl (K.OW.gcallw hS [] [0, 1, 2] [.string (K.sb (((K.spl 32 l).drop 1).getD j []))] (rvalue_ok _ (((K.spl 32 l).drop 1).getD j []) (by omega)) ?_)
        clear hS; rintro _ _ w ⟨rfl, (⟨h_22, q_23, rfl⟩ | ⟨h_24, q_25, rfl⟩)⟩ hS
        ·
          replace hS : K.Sat w0 [o1, g_2, fr] w := hS
          refine K.RW.qs [.tuple #[.int .u32 (numR (((K.spl 32 l).drop 1).getD j []) 4294967295), .bool true], .int .u32 (numR (((K.spl 32 l).drop 1).getD j []) 4294967295), .bool true, .int .u32 (numR (((K.spl 32 l).drop 1).getD j []) 4294967295), .bool true] (by kernel_rfl) ?_
          refine K.RW.nil ?_
          refine K.thn_normal ?_
          refine K.KW.seq ?_
          refine K.KW.seq ?_
          -- 9 :174
          refine K.KW.region ?_
          refine K.RW.qs [.bool true, .bool false] (by kernel_rfl) ?_
          refine K.RW.nil ?_
          refine K.thn_normal ?_
          refine K.KW.ifF rfl ?_
          refine K.KW.skip ?_
          refine K.thn_normal ?_
          -- 11 :177
          refine K.KW.region ?_
          refine K.RW.qs [.slice q1 o.length c1, .int .u32 (numR (((K.spl 32 l).drop 1).getD j []) 4294967295)] (by kernel_rfl) ?_
          refine K.RW.l rfl (K.OW.gbs [(0, .int .u32 (numR (((K.spl 32 l).drop 1).getD j []) 4294967295))] [.int .u32 (numR (((K.spl 32 l).drop 1).getD j []) 4294967295)] hS (fun w => K.bs_run (P := Tryd.prog) w 43 23 1 _ _ Tryd.underlying43 (by kernel_rfl)) ?_)
          clear hS; intro w r_26 g_27 hg_28 hS
          refine K.RW.l rfl (K.OW.gapp (P := Tryd.prog) (xs := (o).flatMap cU32) (z := .int .u32 0) (size := 1) (bytes := 4) 1 [.int .u32 (numR (((K.spl 32 l).drop 1).getD j []) 4294967295)] hS x_18 ?_ (fun j u hj => (by rw [Nat.zero_add]; exact (hS.blk 0 rfl hg_28).cell hj)) (K.one_cells (by rfl)) (by rfl) Tryd.underlying43 (by kernel_rfl) rfl (by decide) (by unfold maxLen; omega) (by omega))
          clear hS; intro a_29 cap_30 w l_31 o_32 hS
          have ln_33 : ((o ++ [((numR (((K.spl 32 l).drop 1).getD j []) 4294967295) : Int)])).length = o.length + 1 := by rw [List.length_append]; rfl
          have o_32c := K.OwnG.cast (xs' := ((o ++ [((numR (((K.spl 32 l).drop 1).getD j []) 4294967295) : Int)])).flatMap cU32) o_32 rfl (K.fl_snoc cU32 o _ rfl)
          replace hS : K.Sat w0 [g_27, l_31, g_2, fr] w := hS
          refine K.RW.qs [.slice a_29 (o.length + 1) cap_30] (by kernel_rfl) ?_
          refine K.RW.nil ?_
          refine K.blk_normal ?_
          refine K.thn_normal ?_
          -- 12 :172
          refine K.KW.region ?_
          refine K.RW.q rfl rfl (K.QR.n64 ((((j : Nat) : Int) : Int) + (1 : Int)) ((j + 1 : Nat) : Int) (by kernel_rfl) (by omega)) ?_
          refine K.RW.qs [.int .i64 ((j + 1 : Nat) : Int)] (by kernel_rfl) ?_
          refine K.RW.nil ?_
          refine K.thn_normal ?_
          refine ⟨_, ?_, j + 1, (o ++ [((numR (((K.spl 32 l).drop 1).getD j []) 4294967295) : Int)]), a_29, cap_30, l_31, rfl, ⟨by rfl, by rfl, by rfl, congrArg (fun m_ => Value.slice a_29 m_ cap_30) (by first | rfl | (rw [List.length_append]; rfl) : o.length + 1 = ((o ++ [((numR (((K.spl 32 l).drop 1).getD j []) 4294967295) : Int)])).length), by rfl, by rfl, by rfl, by rfl, trivial⟩, (by omega), (mapO_next hmo (by omega) h_22), (by first | omega | (rw [List.length_append]; simp; omega)), (K.OwnG.cast o_32c (by first | rfl | (rw [List.length_append]; rfl)) rfl), hS.pick [1, 2, 3]⟩
          omega
        ·
          replace hS : K.Sat w0 [o1, g_2, fr] w := hS
          refine K.RW.qs [.tuple #[.int .u32 (u32R (numR (((K.spl 32 l).drop 1).getD j []) 4294967295)), .bool false], .int .u32 (u32R (numR (((K.spl 32 l).drop 1).getD j []) 4294967295)), .bool false, .int .u32 (u32R (numR (((K.spl 32 l).drop 1).getD j []) 4294967295)), .bool false] (by kernel_rfl) ?_
          refine K.RW.nil ?_
          refine K.thn_normal ?_
          refine K.KW.seq ?_
          refine K.KW.seq ?_
          -- 9 :174
          refine K.KW.region ?_
          refine K.RW.qs [.bool false, .bool true] (by kernel_rfl) ?_
          refine K.RW.nil ?_
          refine K.thn_normal ?_
          refine K.KW.ifT rfl ?_
          refine K.KW.seq ?_
          -- 10 :175
          refine K.KW.region ?_
          refine K.RW.qs [.slice none 0 0, .bool false] (by kernel_rfl) ?_
          refine K.RW.nil ?_
          refine K.thn_normal ?_
          refine K.KW.ret ?_
          refine K.thn_ret ?_
          refine K.blk_ret ?_
          refine K.thn_ret ?_
          refine K.thn_ret ?_
          refine K.blk_ret ?_
          refine K.thn_ret ?_
          refine ⟨.inr rfl, rfl, (.tuple #[.slice none 0 0, .bool false]), K.res2 rfl rfl rfl, [], ?_, hS.pick [2]⟩
          exact .inr ⟨by unfold rdRow; rw [if_pos hnm]; exact mapO_fail (j := j) (by omega) h_24, rfl, rfl⟩
      ·  -- no
        refine K.RW.q rfl rfl (K.QR.nice (v := .bool (decide ((((j : Nat) : Int) : Int) < (((((K.spl 32 l).drop 1).length : Nat) : Int) : Int)))) (by kernel_rfl) (congrArg Value.bool (decide_eq_false h_19))) ?_
        refine K.RW.nil ?_
        refine K.thn_normal ?_
        refine K.KW.seq ?_
        refine K.KW.ifF rfl ?_
        refine K.KW.exit ?_
        refine K.thn_exit ?_
        refine K.thn_exit ?_
        refine K.blk_hit ?_
        refine K.thn_normal ?_
        refine K.KW.seq ?_
        -- 13 :179
        refine K.KW.region ?_
        refine K.RW.qs [.slice q1 o.length c1, .slice q1 o.length c1, .bool true] (by kernel_rfl) ?_
        refine K.RW.nil ?_
        refine K.thn_normal ?_
        refine K.KW.ret ?_
        refine ⟨.inr rfl, rfl, (.tuple #[.slice q1 o.length c1, .bool true]), K.res2 rfl rfl rfl, [o1], ?_, hS.pick [0, 2]⟩
        have e := List.take_of_length_le (l := (K.spl 32 l).drop 1) (i := j) (by omega)
        rw [e] at hmo
        exact .inl ⟨o, _, _, _, by unfold rdRow; rw [if_pos hnm]; exact hmo, rfl, rfl, x_18⟩
  ·  -- no
    refine K.RW.q rfl rfl (K.QR.sNe (xs := (K.spl 32 l).getD 0 []) (ys := nm) true rfl rfl rfl (K.ndeq_f h_4)) ?_
    refine K.RW.nil ?_
    refine K.thn_normal ?_
    refine K.KW.ifT rfl ?_
    refine K.KW.seq ?_
    -- 3 :169
    refine K.KW.region ?_
    refine K.RW.qs [.slice none 0 0, .bool false] (by kernel_rfl) ?_
    refine K.RW.nil ?_
    refine K.thn_normal ?_
    refine K.KW.ret ?_
    refine K.thn_ret ?_
    refine ⟨.inr rfl, rfl, (.tuple #[.slice none 0 0, .bool false]), K.res2 rfl rfl rfl, [], ?_, hS.pick [1]⟩
    exact .inr ⟨by unfold rdRow; exact if_neg (by assumption), rfl, rfl⟩
set_option maxHeartbeats 4000000 in
set_option maxRecDepth 100000 in
theorem rrowP_ok (w0 : World) (l nm : List UInt8) (hl : l.length ≤ 1000000) :
    K.GC Tryd.prog w0 58 #[.string (K.sb l), .string (K.sb nm), .func (.func 59) [].toArray [].toArray] [] (fun v post => (∃ L r c g, rdRow nm rdP l = some L ∧ post = [g] ∧ v = .tuple #[.slice r L.length c, .bool true] ∧ K.OwnG g 92 2 r L.length c (L.flatMap cPair)) ∨ (rdRow nm rdP l = none ∧ post = [] ∧ v = .tuple #[.slice none 0 0, .bool false])) := by
  refine K.GC.mk (n := 42) Tryd.func58 rfl rfl [.string (K.sb l), .string (K.sb nm), .func (.func 59) [].toArray [].toArray] rfl rfl ?_
  intro fr w hS
  replace hS : K.Sat w0 [fr] w := hS
  refine K.KW.seq ?_
  -- 0 :166
  refine K.KW.region ?_
  refine K.RW.qs [.slice none 0 0, .bool false] (by kernel_rfl) ?_
  refine K.RW.nil ?_
  refine K.thn_normal ?_
  refine K.KW.seq ?_
  -- 1 :167
  refine K.KW.region ?_
  refine K.RW.qs [.string (K.sb l)] (by kernel_rfl) ?_
  refine K.RW.l rfl (K.OW.gcall hS [] [0] [.string (K.sb l), .string (K.sb [32])] (split_ok _ l 32 (by omega)) ?_)
  clear hS; rintro _ _ w ⟨r_1, g_2, rfl, rfl, o_3⟩ hS
  replace hS : K.Sat w0 [g_2, fr] w := hS
  refine K.RW.qs [.slice (some ⟨r_1, 0, none⟩) ((K.spl 32 l).length) ((K.spl 32 l).length)] (by kernel_rfl) ?_
  refine K.RW.nil ?_
  refine K.thn_normal ?_
  refine K.KW.seq ?_
  refine K.KW.seq ?_
  -- 2 :168
  have hsl := K.spl_len 32 l
  have hw0 : 0 < (K.spl 32 l).length := by omega
  have hcl : l.count 32 ≤ l.length := List.count_le_length
  refine K.KW.region ?_
  refine K.RW.qs [.slice (some ⟨r_1, 0, none⟩) ((K.spl 32 l).length) ((K.spl 32 l).length)] (by kernel_rfl) ?_
  refine K.RW.q rfl rfl (K.QR.ix 0 1 rfl rfl rfl Tryd.underlying68 (by kernel_rfl) (by omega) (by first | (simp; done) | omega | (simp; omega))) ?_
  refine K.RW.q rfl rfl (K.QR.ld1 (v := .string (K.sb ((K.spl 32 l).getD 0 []))) rfl rfl (by kernel_rfl) (K.Own.atS (c := K.cStr) (d := []) (fun _ => rfl) (hS.ownr 0 rfl o_3) rfl 0 (by omega))) ?_
  refine K.RW.qs [.string (K.sb nm)] (by kernel_rfl) ?_
  by_cases h_4 : ((K.spl 32 l).getD 0 []) = nm
  ·  -- yes
    refine K.RW.q rfl rfl (K.QR.sNe (xs := (K.spl 32 l).getD 0 []) (ys := nm) false rfl rfl rfl (K.ndeq_t h_4)) ?_
    refine K.RW.nil ?_
    refine K.thn_normal ?_
    refine K.KW.ifF rfl ?_
    refine K.KW.skip ?_
    refine K.thn_normal ?_
    refine K.KW.seq ?_
    -- 4 :171
    refine K.KW.region ?_
    refine K.RW.qs [.slice none 0 0] (by kernel_rfl) ?_
    refine K.RW.nil ?_
    refine K.thn_normal ?_
    refine K.KW.seq ?_
    refine K.KW.seq ?_
    -- 5 :172
    have hnm : (K.spl 32 l).getD 0 [] = nm := by assumption
    refine K.KW.region ?_
    refine K.RW.qs [.slice (some ⟨r_1, 0, none⟩) ((K.spl 32 l).length) ((K.spl 32 l).length)] (by kernel_rfl) ?_
    have hr_7 : ∀ w, K.Sat w0 [g_2] w → K.RowE w (some ⟨r_1, 0, none⟩) (K.spl 32 l).length 1 (fun i => K.cStr ((K.spl 32 l).getD i [])) := fun w h => K.RowE.len (K.Own.rowE [] (h.ownr 0 rfl o_3) rfl (fun _ => rfl)) rfl
    obtain ⟨as_8, has_9⟩ : ∃ q, q = K.shift (some ⟨r_1, 0, none⟩) ((K.spl 32 l).length) 1 1 := ⟨_, rfl⟩
    have x_5 : ∀ w, K.Sat w0 [g_2] w → K.RowE w as_8 ((K.spl 32 l).drop 1).length 1 (fun i => K.cStr (((K.spl 32 l).drop 1).getD i [])) := fun w h => has_9 ▸ K.RowE.drop (c := K.cStr) (d := []) (L := (K.spl 32 l)) (cap := ((K.spl 32 l).length)) (hr_7 w h) 1 (by first | omega | (simp; done) | (simp; omega)) (o_3.le.1)
    have n_6 : ((K.spl 32 l).drop 1).length = (K.spl 32 l).length - 1 := List.length_drop
    refine K.RW.q rfl rfl (K.QR.turn (v' := .slice as_8 (((K.spl 32 l).drop 1).length) ((K.spl 32 l).length - 1)) (K.QR.slLo (size := 1) (m := ((K.spl 32 l).length)) (k := (((K.spl 32 l).drop 1).length)) 1 rfl rfl rfl Tryd.underlying68 (by kernel_rfl) (by first | omega | (simp; done) | (simp; omega)) (by first | omega | (simp; done) | (simp; omega))) (by rw [has_9])) ?_
    refine K.RW.q rfl rfl (K.QR.len (P := Tryd.prog) rfl rfl Tryd.underlying68) ?_
    refine K.RW.qs [.int .i64 0] (by kernel_rfl) ?_
    refine K.RW.nil ?_
    refine K.thn_normal ?_
    refine K.KW.block ?_
    obtain ⟨z_10, hz_11⟩ : ∃ z : K.Cs, z = [] := ⟨_, rfl⟩
    replace hS : K.Sat w0 [z_10, g_2, fr] w := hS.of (by simp [hz_11])
    have o_12 : K.OwnG z_10 92 2 none 0 0 [] := by rw [hz_11]; exact K.OwnG.nil _ _
    refine K.KW.loop (fun m_ F_ w_ => ∃ (j : Nat) (o : List PairM) (q1 : Option Addr) (c1 : Nat) (o1 : K.Cs), m_ = ((K.spl 32 l).drop 1).length - j ∧ K.Sl F_ [(0, .string (K.sb l)), (1, .string (K.sb nm)), (2, .func (.func 59) [].toArray [].toArray), (9, .slice q1 o.length c1), (22, .slice as_8 (((K.spl 32 l).drop 1).length) ((K.spl 32 l).length - 1)), (23, .int .i64 ((((K.spl 32 l).drop 1).length : Nat) : Int)), (24, .int .i64 ((j : Nat) : Int)), (42, undef)] ∧ j ≤ ((K.spl 32 l).drop 1).length ∧ mapO rdP (((K.spl 32 l).drop 1).take j) = some o ∧ o.length ≤ j ∧ K.OwnG o1 92 2 q1 o.length c1 ((o).flatMap cPair) ∧ K.Sat w0 [o1, g_2, fr] w_) ((fun (j : Nat) (o : List PairM) (q1 : Option Addr) (c1 : Nat) => ((K.spl 32 l).drop 1).length - j) 0 [] none 0) ?_ ?_
    · -- begins
      exact ⟨0, [], none, 0, z_10, rfl, ⟨by rfl, by rfl, by rfl, by rfl, by rfl, by rfl, by rfl, by rfl, trivial⟩, (by omega), (rfl), (by exact Nat.le_refl 0), o_12, hS.pick [0, 1, 2]⟩
    · -- a round
      clear hS
      intro m_13 F_14 w hI
      obtain ⟨j, o, q1, c1, o1, rfl, sl_15, p_16, hmo, p_17, x_18, hS⟩ := hI
      rw [← K.Sl.puts sl_15]; clear sl_15
      refine K.KW.seq ?_
      -- 6 :172
      refine K.KW.region ?_
      by_cases h_19 : (((j : Nat) : Int) : Int) < (((((K.spl 32 l).drop 1).length : Nat) : Int) : Int)
      ·  -- yes
        refine K.RW.q rfl rfl (K.QR.nice (v := .bool (decide ((((j : Nat) : Int) : Int) < (((((K.spl 32 l).drop 1).length : Nat) : Int) : Int)))) (by kernel_rfl) (congrArg Value.bool (decide_eq_true h_19))) ?_
        refine K.RW.nil ?_
        refine K.thn_normal ?_
        refine K.KW.seq ?_
        refine K.KW.ifT rfl ?_
        refine K.KW.skip ?_
        refine K.thn_normal ?_
        refine K.KW.seq ?_
        refine K.KW.block ?_
        refine K.KW.seq ?_
        -- 7 :172
        obtain ⟨b_20, of_21, rfl, _⟩ := (x_5 _ (hS.pick [1])).at_ (by omega)
        have hgl : (((K.spl 32 l).drop 1).getD j []).length ≤ 1000000 := by
          have h9 := K.getD_spl_len 32 l (1 + j)
          have e : ((K.spl 32 l).drop 1).getD j [] = (K.spl 32 l).getD (1 + j) [] := by rw [List.getD_eq_getElem?_getD, List.getD_eq_getElem?_getD, List.getElem?_drop]
          rw [e]; omega
        refine K.KW.region ?_
        refine K.RW.q rfl rfl (K.QR.ix (of_21 + j * 1) 1 rfl rfl rfl Tryd.underlying68 (by kernel_rfl) (by omega) (by first | (simp; done) | omega | (simp; omega))) ?_
        refine K.RW.q rfl rfl (K.QR.ld1 (v := .string (K.sb (((K.spl 32 l).drop 1).getD j []))) rfl rfl (by kernel_rfl) ((x_5 _ (hS.pick [1])).ld j (by omega) 0 _ rfl)) ?_
        refine K.RW.qs [.string (K.sb (((K.spl 32 l).drop 1).getD j []))] (by kernel_rfl) ?_
        refine K.RW.nil ?_
        refine K.thn_normal ?_
        refine K.KW.seq ?_
        -- 8 :173
        refine K.KW.region ?_
        refine K.RW.qs [.func (.func 59) [].toArray [].toArray, .string (K.sb (((K.spl 32 l).drop 1).getD j []))] (by kernel_rfl) ?_
        refine K.RW.l rfl (K.OW.gcallw hS [] [0, 1, 2] [.string (K.sb (((K.spl 32 l).drop 1).getD j []))] (rpair_ok _ (((K.spl 32 l).drop 1).getD j []) (by omega)) ?_)
        clear hS; rintro _ _ w ⟨rfl, (⟨p_22, h_23, rfl⟩ | ⟨h_24, x_25, y_26, rfl⟩)⟩ hS
        ·
          replace hS : K.Sat w0 [o1, g_2, fr] w := hS
          refine K.RW.qs [.tuple #[.agg #[.int .u32 p_22.key, .int .u32 p_22.val], .bool true], .agg #[.int .u32 p_22.key, .int .u32 p_22.val], .bool true] (by kernel_rfl) ?_
          refine K.RW.l rfl (K.OW.gnew 92 [.int .u32 0, .int .u32 0] hS ?_)
          clear hS; intro w r_27 g_28 hg_29 hS
          refine K.RW.l rfl (K.OW.gst 0 [.int .u32 p_22.key, .int .u32 p_22.val] [.int .u32 p_22.key, .int .u32 p_22.val] hS hg_29 ?_)
          clear hS; intro w g_30 hg_31 hS
          replace hS : K.Sat w0 [g_30, o1, g_2, fr] w := hS
          refine K.RW.qs [.bool true] (by kernel_rfl) ?_
          refine K.RW.nil ?_
          refine K.thn_normal ?_
          refine K.KW.seq ?_
          refine K.KW.seq ?_
          -- 9 :174
          refine K.KW.region ?_
          refine K.RW.qs [.bool true, .bool false] (by kernel_rfl) ?_
          refine K.RW.nil ?_
          refine K.thn_normal ?_
          refine K.KW.ifF rfl ?_
          refine K.KW.skip ?_
          refine K.thn_normal ?_
          -- 11 :177
          refine K.KW.region ?_
          refine K.RW.qs [.slice q1 o.length c1] (by kernel_rfl) ?_
          refine K.RW.q rfl rfl (K.QR.ldN [.int .u32 p_22.key, .int .u32 p_22.val] rfl rfl (by kernel_rfl) (by kernel_rfl) (K.cells (K.cl ((hS.blk 0 rfl hg_31).cell rfl) (K.cl ((hS.blk 0 rfl hg_31).cell rfl) K.cl0)))) ?_
          refine K.RW.l rfl (K.OW.gbs [(0, .agg #[.int .u32 p_22.key, .int .u32 p_22.val])] [.int .u32 p_22.key, .int .u32 p_22.val] hS (fun w => K.bs_run (P := Tryd.prog) w 44 92 1 _ _ Tryd.underlying44 (by kernel_rfl)) ?_)
          clear hS; intro w r_32 g_33 hg_34 hS
          refine K.RW.l rfl (K.OW.gapp (P := Tryd.prog) (xs := (o).flatMap cPair) (z := .agg #[.int .u32 0, .int .u32 0]) (size := 2) (bytes := 8) 2 [.int .u32 p_22.key, .int .u32 p_22.val] hS x_18 ?_ (fun j u hj => (by rw [Nat.zero_add]; exact (hS.blk 0 rfl hg_34).cell hj)) (K.one_cells (by rfl)) (by rfl) Tryd.underlying44 (by kernel_rfl) rfl (by decide) (by unfold maxLen; omega) (by omega))
          clear hS; intro a_35 cap_36 w l_37 o_38 hS
          have ln_39 : ((o ++ [(⟨p_22.key, p_22.val⟩ : PairM)])).length = o.length + 1 := by rw [List.length_append]; rfl
          have o_38c := K.OwnG.cast (xs' := ((o ++ [(⟨p_22.key, p_22.val⟩ : PairM)])).flatMap cPair) o_38 rfl (K.fl_snoc cPair o _ rfl)
          replace hS : K.Sat w0 [g_33, g_30, l_37, g_2, fr] w := hS
          refine K.RW.qs [.slice a_35 (o.length + 1) cap_36] (by kernel_rfl) ?_
          refine K.RW.nil ?_
          refine K.blk_normal ?_
          refine K.thn_normal ?_
          -- 12 :172
          refine K.KW.region ?_
          refine K.RW.q rfl rfl (K.QR.n64 ((((j : Nat) : Int) : Int) + (1 : Int)) ((j + 1 : Nat) : Int) (by kernel_rfl) (by omega)) ?_
          refine K.RW.qs [.int .i64 ((j + 1 : Nat) : Int)] (by kernel_rfl) ?_
          refine K.RW.nil ?_
          refine K.thn_normal ?_
          refine ⟨_, ?_, j + 1, (o ++ [(⟨p_22.key, p_22.val⟩ : PairM)]), a_35, cap_36, l_37, rfl, ⟨by rfl, by rfl, by rfl, congrArg (fun m_ => Value.slice a_35 m_ cap_36) (by first | rfl | (rw [List.length_append]; rfl) : o.length + 1 = ((o ++ [(⟨p_22.key, p_22.val⟩ : PairM)])).length), by rfl, by rfl, by rfl, by rfl, trivial⟩, (by omega), (mapO_next hmo (by omega) h_23), (by first | omega | (rw [List.length_append]; simp; omega)), (K.OwnG.cast o_38c (by first | rfl | (rw [List.length_append]; rfl)) rfl), hS.pick [2, 3, 4]⟩
          omega
        ·
          replace hS : K.Sat w0 [o1, g_2, fr] w := hS
          refine K.RW.qs [.tuple #[.agg #[.int .u32 x_25, .int .u32 y_26], .bool false], .agg #[.int .u32 x_25, .int .u32 y_26], .bool false] (by kernel_rfl) ?_
          refine K.RW.l rfl (K.OW.gnew 92 [.int .u32 0, .int .u32 0] hS ?_)
          clear hS; intro w r_40 g_41 hg_42 hS
          refine K.RW.l rfl (K.OW.gst 0 [.int .u32 x_25, .int .u32 y_26] [.int .u32 x_25, .int .u32 y_26] hS hg_42 ?_)
          clear hS; intro w g_43 hg_44 hS
          replace hS : K.Sat w0 [g_43, o1, g_2, fr] w := hS
          refine K.RW.qs [.bool false] (by kernel_rfl) ?_
          refine K.RW.nil ?_
          refine K.thn_normal ?_
          refine K.KW.seq ?_
          refine K.KW.seq ?_
          -- 9 :174
          refine K.KW.region ?_
          refine K.RW.qs [.bool false, .bool true] (by kernel_rfl) ?_
          refine K.RW.nil ?_
          refine K.thn_normal ?_
          refine K.KW.ifT rfl ?_
          refine K.KW.seq ?_
          -- 10 :175
          refine K.KW.region ?_
          refine K.RW.qs [.slice none 0 0, .bool false] (by kernel_rfl) ?_
          refine K.RW.nil ?_
          refine K.thn_normal ?_
          refine K.KW.ret ?_
          refine K.thn_ret ?_
          refine K.blk_ret ?_
          refine K.thn_ret ?_
          refine K.thn_ret ?_
          refine K.blk_ret ?_
          refine K.thn_ret ?_
          refine ⟨.inr rfl, rfl, (.tuple #[.slice none 0 0, .bool false]), K.res2 rfl rfl rfl, [], ?_, hS.pick [3]⟩
          exact .inr ⟨by unfold rdRow; rw [if_pos hnm]; exact mapO_fail (j := j) (by omega) h_24, rfl, rfl⟩
      ·  -- no
        refine K.RW.q rfl rfl (K.QR.nice (v := .bool (decide ((((j : Nat) : Int) : Int) < (((((K.spl 32 l).drop 1).length : Nat) : Int) : Int)))) (by kernel_rfl) (congrArg Value.bool (decide_eq_false h_19))) ?_
        refine K.RW.nil ?_
        refine K.thn_normal ?_
        refine K.KW.seq ?_
        refine K.KW.ifF rfl ?_
        refine K.KW.exit ?_
        refine K.thn_exit ?_
        refine K.thn_exit ?_
        refine K.blk_hit ?_
        refine K.thn_normal ?_
        refine K.KW.seq ?_
        -- 13 :179
        refine K.KW.region ?_
        refine K.RW.qs [.slice q1 o.length c1, .slice q1 o.length c1, .bool true] (by kernel_rfl) ?_
        refine K.RW.nil ?_
        refine K.thn_normal ?_
        refine K.KW.ret ?_
        refine ⟨.inr rfl, rfl, (.tuple #[.slice q1 o.length c1, .bool true]), K.res2 rfl rfl rfl, [o1], ?_, hS.pick [0, 2]⟩
        have e := List.take_of_length_le (l := (K.spl 32 l).drop 1) (i := j) (by omega)
        rw [e] at hmo
        exact .inl ⟨o, _, _, _, by unfold rdRow; rw [if_pos hnm]; exact hmo, rfl, rfl, x_18⟩
  ·  -- no
    refine K.RW.q rfl rfl (K.QR.sNe (xs := (K.spl 32 l).getD 0 []) (ys := nm) true rfl rfl rfl (K.ndeq_f h_4)) ?_
    refine K.RW.nil ?_
    refine K.thn_normal ?_
    refine K.KW.ifT rfl ?_
    refine K.KW.seq ?_
    -- 3 :169
    refine K.KW.region ?_
    refine K.RW.qs [.slice none 0 0, .bool false] (by kernel_rfl) ?_
    refine K.RW.nil ?_
    refine K.thn_normal ?_
    refine K.KW.ret ?_
    refine K.thn_ret ?_
    refine ⟨.inr rfl, rfl, (.tuple #[.slice none 0 0, .bool false]), K.res2 rfl rfl rfl, [], ?_, hS.pick [1]⟩
    exact .inr ⟨by unfold rdRow; exact if_neg (by assumption), rfl, rfl⟩
end Go.Proofs.YtnehocjmgnhhhaaDoor
