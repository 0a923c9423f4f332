/- PmemMay. -/
import Derived.Test.YtgeihjiichdpbaaLl7
namespace Go.Proofs.Ytgeihjiichdpbaa
open Go.RowKit
set_option linter.unusedVariables false
attribute [local irreducible] K.KW K.RW K.DW K.OW K.QR K.KC

set_option maxHeartbeats 1000000 in
set_option maxRecDepth 100000 in
theorem l7mayT_ok (w0 : World) (k : Int) (hk : isInt k) (a : ActP) (ha : a.good) :
    K.GC Try.prog w0 12 #[.bool true, .int .i64 k, .agg #[.int .i64 a.kind, .int .i64 a.thread, .int .i64 a.at_, .int .u64 a.old, .int .u64 a.w]] [] (fun v post => v = .bool true) := by
  have ha2 := ha; obtain ⟨hk0, hth, hat⟩ := ha2
  refine K.GC.mk (n := 149) Try.func12 rfl rfl [.bool true, .int .i64 k, .agg #[.int .i64 a.kind, .int .i64 a.thread, .int .i64 a.at_, .int .u64 a.old, .int .u64 a.w]] rfl rfl ?_
  intro fr w hS
  replace hS : K.Sat w0 [fr] w := hS
  refine K.KW.seq ?_
  -- 0 :152
  refine K.KW.region ?_
  refine K.RW.l rfl (K.OW.gnew 87 [.int .i64 a.kind, .int .i64 a.thread, .int .i64 a.at_, .int .u64 a.old, .int .u64 a.w] hS ?_)
  clear hS; intro w r_1 g_2 hg_3 hS
  refine K.RW.qs [.bool false] (by kernel_rfl) ?_
  refine K.RW.nil ?_
  refine K.thn_normal ?_
  refine K.KW.seq ?_
  refine K.KW.seq ?_
  -- 1 :153
  refine K.KW.region ?_
  refine K.RW.qs [.int .i64 k] (by kernel_rfl) ?_
  by_cases h_4 : (k : Int) > (300 : Int)
  ·  -- yes
    refine K.RW.q rfl rfl (K.QR.nice (v := .bool (decide ((k : Int) > (300 : Int)))) (by kernel_rfl) (congrArg Value.bool (decide_eq_true h_4))) ?_
    refine K.RW.qs [.bool true, .int .i64 k] (by kernel_rfl) ?_
    by_cases h_5 : (k : Int) ≤ (262144 : Int)
    ·  -- yes
      refine K.RW.q rfl (by kernel_rfl) (K.QR.nice (v := .bool (decide ((k : Int) ≤ (262144 : Int)))) (by kernel_rfl) (congrArg Value.bool (decide_eq_true h_5))) ?_
      refine K.RW.qs [.bool true] (by kernel_rfl) ?_
      refine K.RW.nil ?_
      refine K.thn_normal ?_
      refine K.KW.ifT rfl ?_
      refine K.KW.seq ?_
      -- 2 :154
      refine K.KW.region ?_
      refine K.RW.l rfl (K.OW.gcall hS [] [0, 1] [] (awake07_ok _) ?_)
      clear hS; rintro _ _ w ⟨rfl, rfl⟩ hS
      replace hS : K.Sat w0 [g_2, fr] w := hS
      refine K.RW.qs [.bool true] (by kernel_rfl) ?_
      refine K.RW.nil ?_
      refine K.thn_normal ?_
      refine K.KW.ret ?_
      refine K.thn_ret ?_
      refine ⟨.inr rfl, rfl, (.bool true), K.res1 rfl rfl, [], ?_, hS.pick [1]⟩
      exact rfl
    ·  -- no
      refine K.RW.q rfl (by kernel_rfl) (K.QR.nice (v := .bool (decide ((k : Int) ≤ (262144 : Int)))) (by kernel_rfl) (congrArg Value.bool (decide_eq_false h_5))) ?_
      refine K.RW.qs [.bool false] (by kernel_rfl) ?_
      refine K.RW.nil ?_
      refine K.thn_normal ?_
      refine K.KW.ifF rfl ?_
      refine K.KW.skip ?_
      refine K.thn_normal ?_
      refine K.KW.seq ?_
      -- 3 :156
      refine K.KW.region ?_
      refine K.RW.qs [.pointer none] (by kernel_rfl) ?_
      refine K.RW.nil ?_
      refine K.thn_normal ?_
      refine K.KW.seq ?_
      refine K.KW.seq ?_
      -- 4 :157
      refine K.KW.region ?_
      refine K.RW.qs [.bool true] (by kernel_rfl) ?_
      refine K.RW.nil ?_
      refine K.thn_normal ?_
      refine K.KW.ifT rfl ?_
      refine K.KW.seq ?_
      -- 5 :158
      refine K.KW.region ?_
      refine K.RW.l rfl (K.OW.gcall hS [] [0, 1] [.int .i64 1, .int .i64 1] (dvNew_ok _ 1 1 (by omega) (by omega)) ?_)
      clear hS; rintro _ _ w (⟨p_6, l_7, rfl, rfl, x_8, h_9⟩ | ⟨rfl, rfl, h_10⟩) hS
      ·
        replace hS : K.Sat w0 [l_7, g_2, fr] w := hS
        refine K.RW.qs [.tuple #[.pointer (some ⟨p_6, 0, none⟩), .int .i64 0], .pointer (some ⟨p_6, 0, none⟩), .int .i64 0, .pointer (some ⟨p_6, 0, none⟩), .int .i64 0] (by kernel_rfl) ?_
        refine K.RW.nil ?_
        refine K.thn_normal ?_
        refine K.KW.seq ?_
        refine K.KW.seq ?_
        -- 6 :159
        refine K.KW.region ?_
        refine K.RW.qs [.int .i64 0, .bool false] (by kernel_rfl) ?_
        refine K.RW.nil ?_
        refine K.thn_normal ?_
        refine K.KW.ifF rfl ?_
        refine K.KW.skip ?_
        refine K.thn_normal ?_
        -- 8 :162
        refine K.KW.region ?_
        refine K.RW.qs [.pointer (some ⟨p_6, 0, none⟩), .pointer (some ⟨p_6, 0, none⟩)] (by kernel_rfl) ?_
        refine K.RW.nil ?_
        refine K.thn_normal ?_
        refine K.KW.seq ?_
        -- 9 :164
        refine K.KW.region ?_
        refine K.RW.qs [.pointer (some ⟨p_6, 0, none⟩), .int .i64 k] (by kernel_rfl) ?_
        refine K.RW.l rfl (K.OW.gcall hS [0] [1, 2] [.pointer (some ⟨p_6, 0, none⟩), .int .i64 k] (mNew_ok _ _ _ _ _ _ x_8 k (by omega)) ?_)
        clear hS; rintro _ _ w (⟨p_11, l_12, rfl, rfl, x_13, h_14⟩ | ⟨rfl, h_15, rfl⟩) hS
        ·
          replace hS : K.Sat w0 [l_12, g_2, fr] w := hS
          refine K.RW.qs [.tuple #[.pointer (some ⟨p_11, 0, none⟩), .int .i64 0], .pointer (some ⟨p_11, 0, none⟩), .int .i64 0, .pointer (some ⟨p_11, 0, none⟩), .int .i64 0] (by kernel_rfl) ?_
          refine K.RW.nil ?_
          refine K.thn_normal ?_
          refine K.KW.seq ?_
          refine K.KW.seq ?_
          -- 10 :165
          refine K.KW.region ?_
          refine K.RW.qs [.bool true, .bool true, .int .i64 k] (by kernel_rfl) ?_
          by_cases h_16 : (k : Int) ≥ (0 : Int)
          ·  -- yes
            refine K.RW.q rfl (by kernel_rfl) (K.QR.nice (v := .bool (decide ((k : Int) ≥ (0 : Int)))) (by kernel_rfl) (congrArg Value.bool (decide_eq_true h_16))) ?_
            refine K.RW.qs [.bool true, .bool true, .int .i64 k] (by kernel_rfl) ?_
            refine K.RW.q rfl (by kernel_rfl) (K.QR.nice (v := .bool (decide ((k : Int) ≤ (262144 : Int)))) (by kernel_rfl) (congrArg Value.bool (decide_eq_false h_5))) ?_
            refine K.RW.qs [.bool false] (by kernel_rfl) ?_
            refine K.RW.nil ?_
            refine K.thn_normal ?_
            refine K.KW.ifF rfl ?_
            refine K.KW.skip ?_
            refine K.thn_normal ?_
            refine K.KW.seq ?_
            -- 14 :170
            exfalso
            omega
          ·  -- no
            refine K.RW.q rfl (by kernel_rfl) (K.QR.nice (v := .bool (decide ((k : Int) ≥ (0 : Int)))) (by kernel_rfl) (congrArg Value.bool (decide_eq_false h_16))) ?_
            refine K.RW.qs [.bool false, .bool false] (by kernel_rfl) ?_
            refine K.RW.skip rfl (by kernel_rfl) ?_
            refine K.RW.skip rfl (by kernel_rfl) ?_
            refine K.RW.qs [.bool false] (by kernel_rfl) ?_
            refine K.RW.nil ?_
            refine K.thn_normal ?_
            refine K.KW.ifF rfl ?_
            refine K.KW.skip ?_
            refine K.thn_normal ?_
            refine K.KW.seq ?_
            -- 14 :170
            exfalso
            omega
        ·
          replace hS : K.Sat w0 [l_7, g_2, fr] w := hS
          refine K.RW.qs [.tuple #[.pointer none, .int .i64 1], .pointer none, .int .i64 1, .pointer none, .int .i64 1] (by kernel_rfl) ?_
          refine K.RW.nil ?_
          refine K.thn_normal ?_
          refine K.KW.seq ?_
          refine K.KW.seq ?_
          -- 10 :165
          refine K.KW.region ?_
          refine K.RW.qs [.bool true, .bool true, .int .i64 k] (by kernel_rfl) ?_
          by_cases h_17 : (k : Int) ≥ (0 : Int)
          ·  -- yes
            refine K.RW.q rfl (by kernel_rfl) (K.QR.nice (v := .bool (decide ((k : Int) ≥ (0 : Int)))) (by kernel_rfl) (congrArg Value.bool (decide_eq_true h_17))) ?_
            refine K.RW.qs [.bool true, .bool true, .int .i64 k] (by kernel_rfl) ?_
            refine K.RW.q rfl (by kernel_rfl) (K.QR.nice (v := .bool (decide ((k : Int) ≤ (262144 : Int)))) (by kernel_rfl) (congrArg Value.bool (decide_eq_false h_5))) ?_
            refine K.RW.qs [.bool false] (by kernel_rfl) ?_
            refine K.RW.nil ?_
            refine K.thn_normal ?_
            refine K.KW.ifF rfl ?_
            refine K.KW.skip ?_
            refine K.thn_normal ?_
            refine K.KW.seq ?_
            -- 14 :170
            refine K.KW.region ?_
            refine K.RW.qs [.pointer none] (by kernel_rfl) ?_
            refine K.RW.q rfl rfl (K.QR.ldN [.int .i64 a.kind, .int .i64 a.thread, .int .i64 a.at_, .int .u64 a.old, .int .u64 a.w] rfl rfl (by kernel_rfl) (by kernel_rfl) (K.cells (K.cl ((hS.blk 1 rfl hg_3).cell rfl) (K.cl ((hS.blk 1 rfl hg_3).cell rfl) (K.cl ((hS.blk 1 rfl hg_3).cell rfl) (K.cl ((hS.blk 1 rfl hg_3).cell rfl) (K.cl ((hS.blk 1 rfl hg_3).cell rfl) K.cl0))))))) ?_
            refine K.RW.l rfl (K.OW.gcall hS [] [0, 1, 2] [.pointer none, .agg #[.int .i64 a.kind, .int .i64 a.thread, .int .i64 a.at_, .int .u64 a.old, .int .u64 a.w]] (do7_nil _ a ha) ?_)
            clear hS; rintro _ _ w ⟨rfl, rfl⟩ hS
            replace hS : K.Sat w0 [l_7, g_2, fr] w := hS
            refine K.RW.nil ?_
            refine K.thn_normal ?_
            refine K.KW.seq ?_
            -- 15 :171
            refine K.KW.region ?_
            refine K.RW.qs [.pointer none, .pointer (some ⟨r_1, 2, none⟩)] (by kernel_rfl) ?_
            refine K.RW.q rfl rfl (K.QR.ld1 (v := .int .i64 a.at_) rfl rfl (by kernel_rfl) ((hS.blk 1 rfl hg_3).cell rfl)) ?_
            refine K.RW.l rfl (K.OW.gcall hS [] [0, 1, 2] [.pointer none, .int .i64 a.at_] (mPeek_nil _ a.at_) ?_)
            clear hS; rintro _ _ w ⟨rfl, rfl⟩ hS
            replace hS : K.Sat w0 [l_7, g_2, fr] w := hS
            refine K.RW.qs [.tuple #[.int .u64 0, .bool false], .int .u64 0, .bool false, .int .u64 0, .bool false] (by kernel_rfl) ?_
            refine K.RW.nil ?_
            refine K.thn_normal ?_
            refine K.KW.seq ?_
            -- 16 :172
            refine K.KW.region ?_
            refine K.RW.l rfl (K.OW.gcall hS [] [0, 1, 2] [] (awake07_ok _) ?_)
            clear hS; rintro _ _ w ⟨rfl, rfl⟩ hS
            replace hS : K.Sat w0 [l_7, g_2, fr] w := hS
            refine K.RW.qs [.bool true, .int .i64 1, .bool true, .bool true, .bool true, .pointer none, .bool true, .bool true, .bool true, .bool false, .bool true, .bool true, .bool true, .pointer none, .pointer (some ⟨r_1, 2, none⟩)] (by kernel_rfl) ?_
            refine K.RW.q rfl (by kernel_rfl) (K.QR.ld1 (v := .int .i64 a.at_) rfl rfl (by kernel_rfl) ((hS.blk 1 rfl hg_3).cell rfl)) ?_
            refine K.RW.l (by kernel_rfl) (K.OW.gcall hS [] [0, 1, 2] [.pointer none, .int .i64 0, .int .i64 a.at_] (mLoad_nil _ 0 a.at_) ?_)
            clear hS; rintro _ _ w ⟨rfl, rfl⟩ hS
            replace hS : K.Sat w0 [l_7, g_2, fr] w := hS
            refine K.RW.qs [.bool true, .bool true, .bool true, .pointer none, .pointer (some ⟨r_1, 2, none⟩)] (by kernel_rfl) ?_
            refine K.RW.q rfl (by kernel_rfl) (K.QR.ld1 (v := .int .i64 a.at_) rfl rfl (by kernel_rfl) ((hS.blk 1 rfl hg_3).cell rfl)) ?_
            refine K.RW.l (by kernel_rfl) (K.OW.gcall hS [] [0, 1, 2] [.pointer none, .int .i64 0, .int .i64 a.at_, .int .u64 0, .int .u64 0] (mSwap_nil _ 0 a.at_ 0 0) ?_)
            clear hS; rintro _ _ w ⟨rfl, rfl⟩ hS
            replace hS : K.Sat w0 [l_7, g_2, fr] w := hS
            refine K.RW.qs [.bool true, .bool true, .bool true, .pointer none] (by kernel_rfl) ?_
            refine K.RW.l (by kernel_rfl) (K.OW.gcall hS [] [0, 1, 2] [.pointer none] (mClock_nil _ ) ?_)
            clear hS; rintro _ _ w ⟨rfl, rfl⟩ hS
            replace hS : K.Sat w0 [l_7, g_2, fr] w := hS
            refine K.RW.qs [.bool true, .bool true, .bool true, .pointer none] (by kernel_rfl) ?_
            refine K.RW.l (by kernel_rfl) (K.OW.gcall hS [] [0, 1, 2] [.pointer none] (mBad_nil _ ) ?_)
            clear hS; rintro _ _ w ⟨rfl, rfl⟩ hS
            replace hS : K.Sat w0 [l_7, g_2, fr] w := hS
            refine K.RW.qs [.bool true, .bool true, .bool true, .pointer none, .pointer (some ⟨r_1, 2, none⟩)] (by kernel_rfl) ?_
            refine K.RW.q rfl (by kernel_rfl) (K.QR.ld1 (v := .int .i64 a.at_) rfl rfl (by kernel_rfl) ((hS.blk 1 rfl hg_3).cell rfl)) ?_
            refine K.RW.l (by kernel_rfl) (K.OW.gcall hS [] [0, 1, 2] [.pointer none, .int .i64 a.at_] (mWrites_nil _ a.at_) ?_)
            clear hS; rintro _ _ w ⟨rfl, rfl⟩ hS
            replace hS : K.Sat w0 [l_7, g_2, fr] w := hS
            refine K.RW.qs [.bool true, .bool true, .bool true, .pointer none] (by kernel_rfl) ?_
            refine K.RW.l (by kernel_rfl) (K.OW.gcall hS [] [0, 1, 2] [.pointer none] (mDevice_nil _ ) ?_)
            clear hS; rintro _ _ w ⟨rfl, rfl⟩ hS
            replace hS : K.Sat w0 [l_7, g_2, fr] w := hS
            refine K.RW.qs [.bool true, .bool true, .bool true, .pointer none] (by kernel_rfl) ?_
            refine K.RW.l (by kernel_rfl) (K.OW.gcall hS [] [0, 1, 2] [.pointer none] (mLast_nil _ ) ?_)
            clear hS; rintro _ _ w ⟨rfl, rfl⟩ hS
            replace hS : K.Sat w0 [l_7, g_2, fr] w := hS
            refine K.RW.q rfl (by kernel_rfl) (K.QR.bd [] [.int .i64 0, .int .i64 0, .int .i64 0, .int .u64 0, .int .u64 0, .bool false] rfl rfl (by kernel_rfl)) ?_
            refine K.RW.q rfl (by kernel_rfl) (K.QR.eqS (by kernel_rfl) rfl rfl rfl (eqAcc_t (⟨rfl, rfl, rfl, rfl, rfl, rfl⟩))) ?_
            refine K.RW.qs [.bool true, .bool true] (by kernel_rfl) ?_
            refine K.RW.nil ?_
            refine K.thn_normal ?_
            refine K.KW.ret ?_
            refine ⟨.inr rfl, rfl, (.bool true), K.res1 rfl rfl, [], ?_, hS.pick [2]⟩
            exact rfl
          ·  -- no
            refine K.RW.q rfl (by kernel_rfl) (K.QR.nice (v := .bool (decide ((k : Int) ≥ (0 : Int)))) (by kernel_rfl) (congrArg Value.bool (decide_eq_false h_17))) ?_
            refine K.RW.qs [.bool false, .bool false] (by kernel_rfl) ?_
            refine K.RW.skip rfl (by kernel_rfl) ?_
            refine K.RW.skip rfl (by kernel_rfl) ?_
            refine K.RW.qs [.bool false] (by kernel_rfl) ?_
            refine K.RW.nil ?_
            refine K.thn_normal ?_
            refine K.KW.ifF rfl ?_
            refine K.KW.skip ?_
            refine K.thn_normal ?_
            refine K.KW.seq ?_
            -- 14 :170
            refine K.KW.region ?_
            refine K.RW.qs [.pointer none] (by kernel_rfl) ?_
            refine K.RW.q rfl rfl (K.QR.ldN [.int .i64 a.kind, .int .i64 a.thread, .int .i64 a.at_, .int .u64 a.old, .int .u64 a.w] rfl rfl (by kernel_rfl) (by kernel_rfl) (K.cells (K.cl ((hS.blk 1 rfl hg_3).cell rfl) (K.cl ((hS.blk 1 rfl hg_3).cell rfl) (K.cl ((hS.blk 1 rfl hg_3).cell rfl) (K.cl ((hS.blk 1 rfl hg_3).cell rfl) (K.cl ((hS.blk 1 rfl hg_3).cell rfl) K.cl0))))))) ?_
            refine K.RW.l rfl (K.OW.gcall hS [] [0, 1, 2] [.pointer none, .agg #[.int .i64 a.kind, .int .i64 a.thread, .int .i64 a.at_, .int .u64 a.old, .int .u64 a.w]] (do7_nil _ a ha) ?_)
            clear hS; rintro _ _ w ⟨rfl, rfl⟩ hS
            replace hS : K.Sat w0 [l_7, g_2, fr] w := hS
            refine K.RW.nil ?_
            refine K.thn_normal ?_
            refine K.KW.seq ?_
            -- 15 :171
            refine K.KW.region ?_
            refine K.RW.qs [.pointer none, .pointer (some ⟨r_1, 2, none⟩)] (by kernel_rfl) ?_
            refine K.RW.q rfl rfl (K.QR.ld1 (v := .int .i64 a.at_) rfl rfl (by kernel_rfl) ((hS.blk 1 rfl hg_3).cell rfl)) ?_
            refine K.RW.l rfl (K.OW.gcall hS [] [0, 1, 2] [.pointer none, .int .i64 a.at_] (mPeek_nil _ a.at_) ?_)
            clear hS; rintro _ _ w ⟨rfl, rfl⟩ hS
            replace hS : K.Sat w0 [l_7, g_2, fr] w := hS
            refine K.RW.qs [.tuple #[.int .u64 0, .bool false], .int .u64 0, .bool false, .int .u64 0, .bool false] (by kernel_rfl) ?_
            refine K.RW.nil ?_
            refine K.thn_normal ?_
            refine K.KW.seq ?_
            -- 16 :172
            refine K.KW.region ?_
            refine K.RW.l rfl (K.OW.gcall hS [] [0, 1, 2] [] (awake07_ok _) ?_)
            clear hS; rintro _ _ w ⟨rfl, rfl⟩ hS
            replace hS : K.Sat w0 [l_7, g_2, fr] w := hS
            refine K.RW.qs [.bool true, .int .i64 1, .bool true, .bool true, .bool true, .pointer none, .bool true, .bool true, .bool true, .bool false, .bool true, .bool true, .bool true, .pointer none, .pointer (some ⟨r_1, 2, none⟩)] (by kernel_rfl) ?_
            refine K.RW.q rfl (by kernel_rfl) (K.QR.ld1 (v := .int .i64 a.at_) rfl rfl (by kernel_rfl) ((hS.blk 1 rfl hg_3).cell rfl)) ?_
            refine K.RW.l (by kernel_rfl) (K.OW.gcall hS [] [0, 1, 2] [.pointer none, .int .i64 0, .int .i64 a.at_] (mLoad_nil _ 0 a.at_) ?_)
            clear hS; rintro _ _ w ⟨rfl, rfl⟩ hS
            replace hS : K.Sat w0 [l_7, g_2, fr] w := hS
            refine K.RW.qs [.bool true, .bool true, .bool true, .pointer none, .pointer (some ⟨r_1, 2, none⟩)] (by kernel_rfl) ?_
            refine K.RW.q rfl (by kernel_rfl) (K.QR.ld1 (v := .int .i64 a.at_) rfl rfl (by kernel_rfl) ((hS.blk 1 rfl hg_3).cell rfl)) ?_
            refine K.RW.l (by kernel_rfl) (K.OW.gcall hS [] [0, 1, 2] [.pointer none, .int .i64 0, .int .i64 a.at_, .int .u64 0, .int .u64 0] (mSwap_nil _ 0 a.at_ 0 0) ?_)
            clear hS; rintro _ _ w ⟨rfl, rfl⟩ hS
            replace hS : K.Sat w0 [l_7, g_2, fr] w := hS
            refine K.RW.qs [.bool true, .bool true, .bool true, .pointer none] (by kernel_rfl) ?_
            refine K.RW.l (by kernel_rfl) (K.OW.gcall hS [] [0, 1, 2] [.pointer none] (mClock_nil _ ) ?_)
            clear hS; rintro _ _ w ⟨rfl, rfl⟩ hS
            replace hS : K.Sat w0 [l_7, g_2, fr] w := hS
            refine K.RW.qs [.bool true, .bool true, .bool true, .pointer none] (by kernel_rfl) ?_
            refine K.RW.l (by kernel_rfl) (K.OW.gcall hS [] [0, 1, 2] [.pointer none] (mBad_nil _ ) ?_)
            clear hS; rintro _ _ w ⟨rfl, rfl⟩ hS
            replace hS : K.Sat w0 [l_7, g_2, fr] w := hS
            refine K.RW.qs [.bool true, .bool true, .bool true, .pointer none, .pointer (some ⟨r_1, 2, none⟩)] (by kernel_rfl) ?_
            refine K.RW.q rfl (by kernel_rfl) (K.QR.ld1 (v := .int .i64 a.at_) rfl rfl (by kernel_rfl) ((hS.blk 1 rfl hg_3).cell rfl)) ?_
            refine K.RW.l (by kernel_rfl) (K.OW.gcall hS [] [0, 1, 2] [.pointer none, .int .i64 a.at_] (mWrites_nil _ a.at_) ?_)
            clear hS; rintro _ _ w ⟨rfl, rfl⟩ hS
            replace hS : K.Sat w0 [l_7, g_2, fr] w := hS
            refine K.RW.qs [.bool true, .bool true, .bool true, .pointer none] (by kernel_rfl) ?_
            refine K.RW.l (by kernel_rfl) (K.OW.gcall hS [] [0, 1, 2] [.pointer none] (mDevice_nil _ ) ?_)
            clear hS; rintro _ _ w ⟨rfl, rfl⟩ hS
            replace hS : K.Sat w0 [l_7, g_2, fr] w := hS
            refine K.RW.qs [.bool true, .bool true, .bool true, .pointer none] (by kernel_rfl) ?_
            refine K.RW.l (by kernel_rfl) (K.OW.gcall hS [] [0, 1, 2] [.pointer none] (mLast_nil _ ) ?_)
            clear hS; rintro _ _ w ⟨rfl, rfl⟩ hS
            replace hS : K.Sat w0 [l_7, g_2, fr] w := hS
            refine K.RW.q rfl (by kernel_rfl) (K.QR.bd [] [.int .i64 0, .int .i64 0, .int .i64 0, .int .u64 0, .int .u64 0, .bool false] rfl rfl (by kernel_rfl)) ?_
            refine K.RW.q rfl (by kernel_rfl) (K.QR.eqS (by kernel_rfl) rfl rfl rfl (eqAcc_t (⟨rfl, rfl, rfl, rfl, rfl, rfl⟩))) ?_
            refine K.RW.qs [.bool true, .bool true] (by kernel_rfl) ?_
            refine K.RW.nil ?_
            refine K.thn_normal ?_
            refine K.KW.ret ?_
            refine ⟨.inr rfl, rfl, (.bool true), K.res1 rfl rfl, [], ?_, hS.pick [2]⟩
            exact rfl
      ·
        exfalso; omega
  ·  -- no
    refine K.RW.q rfl rfl (K.QR.nice (v := .bool (decide ((k : Int) > (300 : Int)))) (by kernel_rfl) (congrArg Value.bool (decide_eq_false h_4))) ?_
    refine K.RW.qs [.bool false] (by kernel_rfl) ?_
    refine K.RW.skip rfl (by kernel_rfl) ?_
    refine K.RW.skip rfl (by kernel_rfl) ?_
    refine K.RW.qs [.bool false] (by kernel_rfl) ?_
    refine K.RW.nil ?_
    refine K.thn_normal ?_
    refine K.KW.ifF rfl ?_
    refine K.KW.skip ?_
    refine K.thn_normal ?_
    refine K.KW.seq ?_
    -- 3 :156
    refine K.KW.region ?_
    refine K.RW.qs [.pointer none] (by kernel_rfl) ?_
    refine K.RW.nil ?_
    refine K.thn_normal ?_
    refine K.KW.seq ?_
    refine K.KW.seq ?_
    -- 4 :157
    refine K.KW.region ?_
    refine K.RW.qs [.bool true] (by kernel_rfl) ?_
    refine K.RW.nil ?_
    refine K.thn_normal ?_
    refine K.KW.ifT rfl ?_
    refine K.KW.seq ?_
    -- 5 :158
    refine K.KW.region ?_
    refine K.RW.l rfl (K.OW.gcall hS [] [0, 1] [.int .i64 1, .int .i64 1] (dvNew_ok _ 1 1 (by omega) (by omega)) ?_)
    clear hS; rintro _ _ w (⟨p_18, l_19, rfl, rfl, x_20, h_21⟩ | ⟨rfl, rfl, h_22⟩) hS
    ·
      replace hS : K.Sat w0 [l_19, g_2, fr] w := hS
      refine K.RW.qs [.tuple #[.pointer (some ⟨p_18, 0, none⟩), .int .i64 0], .pointer (some ⟨p_18, 0, none⟩), .int .i64 0, .pointer (some ⟨p_18, 0, none⟩), .int .i64 0] (by kernel_rfl) ?_
      refine K.RW.nil ?_
      refine K.thn_normal ?_
      refine K.KW.seq ?_
      refine K.KW.seq ?_
      -- 6 :159
      refine K.KW.region ?_
      refine K.RW.qs [.int .i64 0, .bool false] (by kernel_rfl) ?_
      refine K.RW.nil ?_
      refine K.thn_normal ?_
      refine K.KW.ifF rfl ?_
      refine K.KW.skip ?_
      refine K.thn_normal ?_
      -- 8 :162
      refine K.KW.region ?_
      refine K.RW.qs [.pointer (some ⟨p_18, 0, none⟩), .pointer (some ⟨p_18, 0, none⟩)] (by kernel_rfl) ?_
      refine K.RW.nil ?_
      refine K.thn_normal ?_
      refine K.KW.seq ?_
      -- 9 :164
      refine K.KW.region ?_
      refine K.RW.qs [.pointer (some ⟨p_18, 0, none⟩), .int .i64 k] (by kernel_rfl) ?_
      refine K.RW.l rfl (K.OW.gcall hS [0] [1, 2] [.pointer (some ⟨p_18, 0, none⟩), .int .i64 k] (mNew_ok _ _ _ _ _ _ x_20 k (by omega)) ?_)
      clear hS; rintro _ _ w (⟨p_23, l_24, rfl, rfl, x_25, h_26⟩ | ⟨rfl, h_27, rfl⟩) hS
      ·
        replace hS : K.Sat w0 [l_24, g_2, fr] w := hS
        refine K.RW.qs [.tuple #[.pointer (some ⟨p_23, 0, none⟩), .int .i64 0], .pointer (some ⟨p_23, 0, none⟩), .int .i64 0, .pointer (some ⟨p_23, 0, none⟩), .int .i64 0] (by kernel_rfl) ?_
        refine K.RW.nil ?_
        refine K.thn_normal ?_
        refine K.KW.seq ?_
        refine K.KW.seq ?_
        -- 10 :165
        refine K.KW.region ?_
        refine K.RW.qs [.bool true, .bool true, .int .i64 k] (by kernel_rfl) ?_
        by_cases h_28 : (k : Int) ≥ (0 : Int)
        ·  -- yes
          refine K.RW.q rfl (by kernel_rfl) (K.QR.nice (v := .bool (decide ((k : Int) ≥ (0 : Int)))) (by kernel_rfl) (congrArg Value.bool (decide_eq_true h_28))) ?_
          refine K.RW.qs [.bool true, .bool true, .int .i64 k] (by kernel_rfl) ?_
          by_cases h_29 : (k : Int) ≤ (262144 : Int)
          ·  -- yes
            refine K.RW.q rfl (by kernel_rfl) (K.QR.nice (v := .bool (decide ((k : Int) ≤ (262144 : Int)))) (by kernel_rfl) (congrArg Value.bool (decide_eq_true h_29))) ?_
            refine K.RW.qs [.bool true] (by kernel_rfl) ?_
            refine K.RW.nil ?_
            refine K.thn_normal ?_
            refine K.KW.ifT rfl ?_
            refine K.KW.seq ?_
            -- 11 :166
            by_cases h_30 : (k : Int) = (0 : Int)
            ·  -- yes
              -- 11 :166
              refine K.KW.region ?_
              refine K.RW.qs [.pointer (some ⟨p_23, 0, none⟩), .int .i64 k] (by kernel_rfl) ?_
              refine K.RW.q rfl rfl (K.QR.n64 ((0 : Int) - (k : Int)) (-(k : Int)) (by kernel_rfl) (by omega)) ?_
              refine K.RW.l rfl (K.OW.gcall hS [0] [1, 2] [.pointer (some ⟨p_23, 0, none⟩), .int .i64 (-(k : Int))] (mPeek_ok _ _ _ _ _ _ _ x_25 (-(k : Int)) (by omega)) ?_)
              clear hS; rintro _ _ w ⟨rfl, (⟨y_31, rfl, h_32⟩ | ⟨rfl, h_33⟩)⟩ hS
              ·
                replace hS : K.Sat w0 [l_24, g_2, fr] w := hS
                refine K.RW.qs [.tuple #[.int .u64 y_31, .bool true], .int .u64 y_31, .bool true, .int .u64 y_31, .bool true] (by kernel_rfl) ?_
                refine K.RW.nil ?_
                refine K.thn_normal ?_
                refine K.KW.seq ?_
                -- 12 :167
                refine K.KW.region ?_
                refine K.RW.qs [.pointer (some ⟨p_23, 0, none⟩), .int .i64 k] (by kernel_rfl) ?_
                refine K.RW.q rfl rfl (K.QR.n64 (((-1) : Int) - (k : Int)) (((-1) : Int) - (k : Int)) (by kernel_rfl) (by omega)) ?_
                refine K.RW.l rfl (K.OW.gcall hS [0] [1, 2] [.pointer (some ⟨p_23, 0, none⟩), .int .i64 (((-1) : Int) - (k : Int))] (mPeekN_ok _ _ _ _ _ _ _ x_25 (((-1) : Int) - (k : Int)) (by omega) (of_peekN (by omega))) ?_)
                clear hS; rintro _ _ w ⟨rfl, rfl⟩ hS
                replace hS : K.Sat w0 [l_24, g_2, fr] w := hS
                refine K.RW.qs [.tuple #[.int .u64 0, .bool false], .int .u64 0, .bool false, .int .u64 0, .bool false] (by kernel_rfl) ?_
                refine K.RW.nil ?_
                refine K.thn_normal ?_
                refine K.KW.seq ?_
                -- 13 :168
                refine K.KW.region ?_
                refine K.RW.l rfl (K.OW.gcall hS [] [0, 1, 2] [] (awake07_ok _) ?_)
                clear hS; rintro _ _ w ⟨rfl, rfl⟩ hS
                replace hS : K.Sat w0 [l_24, g_2, fr] w := hS
                refine K.RW.qs [.bool true, .int .i64 0, .bool true, .bool true, .bool true, .bool true, .bool true] (by kernel_rfl) ?_
                refine K.RW.skip rfl (by kernel_rfl) ?_
                refine K.RW.skip rfl (by kernel_rfl) ?_
                refine K.RW.qs [.bool true, .bool true, .bool true, .bool false, .bool true, .bool true, .bool true, .pointer (some ⟨p_23, 0, none⟩)] (by kernel_rfl) ?_
                refine K.RW.l (by kernel_rfl) (K.OW.gcall hS [0] [1, 2] [.pointer (some ⟨p_23, 0, none⟩)] (mDevice_ok _ _ _ _ _ _ _ x_25 ) ?_)
                clear hS; rintro _ _ w ⟨rfl, rfl⟩ hS
                replace hS : K.Sat w0 [l_24, g_2, fr] w := hS
                refine K.RW.l (by kernel_rfl) (K.OW.gcall hS [0] [1, 2] [.pointer (some ⟨p_18, 0, none⟩)] (mdLines_ok _ _ _ _ _ _ _ x_25) ?_)
                clear hS; rintro _ _ w ⟨rfl, rfl⟩ hS
                replace hS : K.Sat w0 [l_24, g_2, fr] w := hS
                refine K.RW.q rfl (by kernel_rfl) (K.QR.nice (v := .bool ((((1 : Nat) : Int) : Int) == (1 : Int))) (by kernel_rfl) (congrArg Value.bool (beq_iff_eq.2 (by decide)))) ?_
                refine K.RW.qs [.bool true, .bool true] (by kernel_rfl) ?_
                refine K.RW.nil ?_
                refine K.thn_normal ?_
                refine K.KW.ret ?_
                refine K.thn_ret ?_
                refine ⟨.inr rfl, rfl, (.bool true), K.res1 rfl rfl, [], ?_, hS.pick [2]⟩
                exact rfl
              ·
                replace hS : K.Sat w0 [l_24, g_2, fr] w := hS
                refine K.RW.qs [.tuple #[.int .u64 0, .bool false], .int .u64 0, .bool false, .int .u64 0, .bool false] (by kernel_rfl) ?_
                refine K.RW.nil ?_
                refine K.thn_normal ?_
                refine K.KW.seq ?_
                -- 12 :167
                refine K.KW.region ?_
                refine K.RW.qs [.pointer (some ⟨p_23, 0, none⟩), .int .i64 k] (by kernel_rfl) ?_
                refine K.RW.q rfl rfl (K.QR.n64 (((-1) : Int) - (k : Int)) (((-1) : Int) - (k : Int)) (by kernel_rfl) (by omega)) ?_
                refine K.RW.l rfl (K.OW.gcall hS [0] [1, 2] [.pointer (some ⟨p_23, 0, none⟩), .int .i64 (((-1) : Int) - (k : Int))] (mPeekN_ok _ _ _ _ _ _ _ x_25 (((-1) : Int) - (k : Int)) (by omega) (of_peekN (by omega))) ?_)
                clear hS; rintro _ _ w ⟨rfl, rfl⟩ hS
                replace hS : K.Sat w0 [l_24, g_2, fr] w := hS
                refine K.RW.qs [.tuple #[.int .u64 0, .bool false], .int .u64 0, .bool false, .int .u64 0, .bool false] (by kernel_rfl) ?_
                refine K.RW.nil ?_
                refine K.thn_normal ?_
                refine K.KW.seq ?_
                -- 13 :168
                refine K.KW.region ?_
                refine K.RW.l rfl (K.OW.gcall hS [] [0, 1, 2] [] (awake07_ok _) ?_)
                clear hS; rintro _ _ w ⟨rfl, rfl⟩ hS
                replace hS : K.Sat w0 [l_24, g_2, fr] w := hS
                refine K.RW.qs [.bool true, .int .i64 0, .bool true, .bool true, .bool true, .bool false, .bool false, .int .i64 k] (by kernel_rfl) ?_
                refine K.RW.q rfl (by kernel_rfl) (K.QR.nice (v := .bool ((k : Int) == (0 : Int))) (by kernel_rfl) (congrArg Value.bool (beq_iff_eq.2 h_30))) ?_
                refine K.RW.qs [.bool true, .bool true, .bool true, .bool false, .bool true, .bool true, .bool true, .pointer (some ⟨p_23, 0, none⟩)] (by kernel_rfl) ?_
                refine K.RW.l (by kernel_rfl) (K.OW.gcall hS [0] [1, 2] [.pointer (some ⟨p_23, 0, none⟩)] (mDevice_ok _ _ _ _ _ _ _ x_25 ) ?_)
                clear hS; rintro _ _ w ⟨rfl, rfl⟩ hS
                replace hS : K.Sat w0 [l_24, g_2, fr] w := hS
                refine K.RW.l (by kernel_rfl) (K.OW.gcall hS [0] [1, 2] [.pointer (some ⟨p_18, 0, none⟩)] (mdLines_ok _ _ _ _ _ _ _ x_25) ?_)
                clear hS; rintro _ _ w ⟨rfl, rfl⟩ hS
                replace hS : K.Sat w0 [l_24, g_2, fr] w := hS
                refine K.RW.q rfl (by kernel_rfl) (K.QR.nice (v := .bool ((((1 : Nat) : Int) : Int) == (1 : Int))) (by kernel_rfl) (congrArg Value.bool (beq_iff_eq.2 (by decide)))) ?_
                refine K.RW.qs [.bool true, .bool true] (by kernel_rfl) ?_
                refine K.RW.nil ?_
                refine K.thn_normal ?_
                refine K.KW.ret ?_
                refine K.thn_ret ?_
                refine ⟨.inr rfl, rfl, (.bool true), K.res1 rfl rfl, [], ?_, hS.pick [2]⟩
                exact rfl
            ·  -- no
              -- 11 :166
              refine K.KW.region ?_
              refine K.RW.qs [.pointer (some ⟨p_23, 0, none⟩), .int .i64 k] (by kernel_rfl) ?_
              refine K.RW.q rfl rfl (K.QR.n64 ((0 : Int) - (k : Int)) (-(k : Int)) (by kernel_rfl) (by omega)) ?_
              refine K.RW.l rfl (K.OW.gcall hS [0] [1, 2] [.pointer (some ⟨p_23, 0, none⟩), .int .i64 (-(k : Int))] (mPeekS_ok _ _ _ _ _ _ _ x_25 (-(k : Int)) (by omega) ((List.replicate k.toNat (0 : Int)).getD (-1 - (-(k : Int))).toNat 0) (of_peek (by omega))) ?_)
              clear hS; rintro _ _ w ⟨rfl, rfl⟩ hS
              replace hS : K.Sat w0 [l_24, g_2, fr] w := hS
              refine K.RW.qs [.tuple #[.int .u64 ((List.replicate k.toNat (0 : Int)).getD (-1 - (-(k : Int))).toNat 0), .bool true], .int .u64 ((List.replicate k.toNat (0 : Int)).getD (-1 - (-(k : Int))).toNat 0), .bool true, .int .u64 ((List.replicate k.toNat (0 : Int)).getD (-1 - (-(k : Int))).toNat 0), .bool true] (by kernel_rfl) ?_
              refine K.RW.nil ?_
              refine K.thn_normal ?_
              refine K.KW.seq ?_
              -- 12 :167
              refine K.KW.region ?_
              refine K.RW.qs [.pointer (some ⟨p_23, 0, none⟩), .int .i64 k] (by kernel_rfl) ?_
              refine K.RW.q rfl rfl (K.QR.n64 (((-1) : Int) - (k : Int)) (((-1) : Int) - (k : Int)) (by kernel_rfl) (by omega)) ?_
              refine K.RW.l rfl (K.OW.gcall hS [0] [1, 2] [.pointer (some ⟨p_23, 0, none⟩), .int .i64 (((-1) : Int) - (k : Int))] (mPeekN_ok _ _ _ _ _ _ _ x_25 (((-1) : Int) - (k : Int)) (by omega) (of_peekN (by omega))) ?_)
              clear hS; rintro _ _ w ⟨rfl, rfl⟩ hS
              replace hS : K.Sat w0 [l_24, g_2, fr] w := hS
              refine K.RW.qs [.tuple #[.int .u64 0, .bool false], .int .u64 0, .bool false, .int .u64 0, .bool false] (by kernel_rfl) ?_
              refine K.RW.nil ?_
              refine K.thn_normal ?_
              refine K.KW.seq ?_
              -- 13 :168
              refine K.KW.region ?_
              refine K.RW.l rfl (K.OW.gcall hS [] [0, 1, 2] [] (awake07_ok _) ?_)
              clear hS; rintro _ _ w ⟨rfl, rfl⟩ hS
              replace hS : K.Sat w0 [l_24, g_2, fr] w := hS
              refine K.RW.qs [.bool true, .int .i64 0, .bool true, .bool true, .bool true, .bool true, .bool true] (by kernel_rfl) ?_
              refine K.RW.skip rfl (by kernel_rfl) ?_
              refine K.RW.skip rfl (by kernel_rfl) ?_
              refine K.RW.qs [.bool true, .bool true, .bool true, .bool false, .bool true, .bool true, .bool true, .pointer (some ⟨p_23, 0, none⟩)] (by kernel_rfl) ?_
              refine K.RW.l (by kernel_rfl) (K.OW.gcall hS [0] [1, 2] [.pointer (some ⟨p_23, 0, none⟩)] (mDevice_ok _ _ _ _ _ _ _ x_25 ) ?_)
              clear hS; rintro _ _ w ⟨rfl, rfl⟩ hS
              replace hS : K.Sat w0 [l_24, g_2, fr] w := hS
              refine K.RW.l (by kernel_rfl) (K.OW.gcall hS [0] [1, 2] [.pointer (some ⟨p_18, 0, none⟩)] (mdLines_ok _ _ _ _ _ _ _ x_25) ?_)
              clear hS; rintro _ _ w ⟨rfl, rfl⟩ hS
              replace hS : K.Sat w0 [l_24, g_2, fr] w := hS
              refine K.RW.q rfl (by kernel_rfl) (K.QR.nice (v := .bool ((((1 : Nat) : Int) : Int) == (1 : Int))) (by kernel_rfl) (congrArg Value.bool (beq_iff_eq.2 (by decide)))) ?_
              refine K.RW.qs [.bool true, .bool true] (by kernel_rfl) ?_
              refine K.RW.nil ?_
              refine K.thn_normal ?_
              refine K.KW.ret ?_
              refine K.thn_ret ?_
              refine ⟨.inr rfl, rfl, (.bool true), K.res1 rfl rfl, [], ?_, hS.pick [2]⟩
              exact rfl
          ·  -- no
            refine K.RW.q rfl (by kernel_rfl) (K.QR.nice (v := .bool (decide ((k : Int) ≤ (262144 : Int)))) (by kernel_rfl) (congrArg Value.bool (decide_eq_false h_29))) ?_
            refine K.RW.qs [.bool false] (by kernel_rfl) ?_
            refine K.RW.nil ?_
            refine K.thn_normal ?_
            refine K.KW.ifF rfl ?_
            refine K.KW.skip ?_
            refine K.thn_normal ?_
            refine K.KW.seq ?_
            -- 14 :170
            exfalso
            omega
        ·  -- no
          refine K.RW.q rfl (by kernel_rfl) (K.QR.nice (v := .bool (decide ((k : Int) ≥ (0 : Int)))) (by kernel_rfl) (congrArg Value.bool (decide_eq_false h_28))) ?_
          refine K.RW.qs [.bool false, .bool false] (by kernel_rfl) ?_
          refine K.RW.skip rfl (by kernel_rfl) ?_
          refine K.RW.skip rfl (by kernel_rfl) ?_
          refine K.RW.qs [.bool false] (by kernel_rfl) ?_
          refine K.RW.nil ?_
          refine K.thn_normal ?_
          refine K.KW.ifF rfl ?_
          refine K.KW.skip ?_
          refine K.thn_normal ?_
          refine K.KW.seq ?_
          -- 14 :170
          exfalso
          omega
      ·
        replace hS : K.Sat w0 [l_19, g_2, fr] w := hS
        refine K.RW.qs [.tuple #[.pointer none, .int .i64 1], .pointer none, .int .i64 1, .pointer none, .int .i64 1] (by kernel_rfl) ?_
        refine K.RW.nil ?_
        refine K.thn_normal ?_
        refine K.KW.seq ?_
        refine K.KW.seq ?_
        -- 10 :165
        refine K.KW.region ?_
        refine K.RW.qs [.bool true, .bool true, .int .i64 k] (by kernel_rfl) ?_
        by_cases h_34 : (k : Int) ≥ (0 : Int)
        ·  -- yes
          refine K.RW.q rfl (by kernel_rfl) (K.QR.nice (v := .bool (decide ((k : Int) ≥ (0 : Int)))) (by kernel_rfl) (congrArg Value.bool (decide_eq_true h_34))) ?_
          refine K.RW.qs [.bool true, .bool true, .int .i64 k] (by kernel_rfl) ?_
          by_cases h_35 : (k : Int) ≤ (262144 : Int)
          ·  -- yes
            refine K.RW.q rfl (by kernel_rfl) (K.QR.nice (v := .bool (decide ((k : Int) ≤ (262144 : Int)))) (by kernel_rfl) (congrArg Value.bool (decide_eq_true h_35))) ?_
            refine K.RW.qs [.bool true] (by kernel_rfl) ?_
            refine K.RW.nil ?_
            refine K.thn_normal ?_
            refine K.KW.ifT rfl ?_
            refine K.KW.seq ?_
            -- 11 :166
            by_cases h_36 : (k : Int) = (0 : Int)
            ·  -- yes
              -- 11 :166
              exfalso
              omega
            ·  -- no
              -- 11 :166
              exfalso
              omega
          ·  -- no
            refine K.RW.q rfl (by kernel_rfl) (K.QR.nice (v := .bool (decide ((k : Int) ≤ (262144 : Int)))) (by kernel_rfl) (congrArg Value.bool (decide_eq_false h_35))) ?_
            refine K.RW.qs [.bool false] (by kernel_rfl) ?_
            refine K.RW.nil ?_
            refine K.thn_normal ?_
            refine K.KW.ifF rfl ?_
            refine K.KW.skip ?_
            refine K.thn_normal ?_
            refine K.KW.seq ?_
            -- 14 :170
            refine K.KW.region ?_
            refine K.RW.qs [.pointer none] (by kernel_rfl) ?_
            refine K.RW.q rfl rfl (K.QR.ldN [.int .i64 a.kind, .int .i64 a.thread, .int .i64 a.at_, .int .u64 a.old, .int .u64 a.w] rfl rfl (by kernel_rfl) (by kernel_rfl) (K.cells (K.cl ((hS.blk 1 rfl hg_3).cell rfl) (K.cl ((hS.blk 1 rfl hg_3).cell rfl) (K.cl ((hS.blk 1 rfl hg_3).cell rfl) (K.cl ((hS.blk 1 rfl hg_3).cell rfl) (K.cl ((hS.blk 1 rfl hg_3).cell rfl) K.cl0))))))) ?_
            refine K.RW.l rfl (K.OW.gcall hS [] [0, 1, 2] [.pointer none, .agg #[.int .i64 a.kind, .int .i64 a.thread, .int .i64 a.at_, .int .u64 a.old, .int .u64 a.w]] (do7_nil _ a ha) ?_)
            clear hS; rintro _ _ w ⟨rfl, rfl⟩ hS
            replace hS : K.Sat w0 [l_19, g_2, fr] w := hS
            refine K.RW.nil ?_
            refine K.thn_normal ?_
            refine K.KW.seq ?_
            -- 15 :171
            refine K.KW.region ?_
            refine K.RW.qs [.pointer none, .pointer (some ⟨r_1, 2, none⟩)] (by kernel_rfl) ?_
            refine K.RW.q rfl rfl (K.QR.ld1 (v := .int .i64 a.at_) rfl rfl (by kernel_rfl) ((hS.blk 1 rfl hg_3).cell rfl)) ?_
            refine K.RW.l rfl (K.OW.gcall hS [] [0, 1, 2] [.pointer none, .int .i64 a.at_] (mPeek_nil _ a.at_) ?_)
            clear hS; rintro _ _ w ⟨rfl, rfl⟩ hS
            replace hS : K.Sat w0 [l_19, g_2, fr] w := hS
            refine K.RW.qs [.tuple #[.int .u64 0, .bool false], .int .u64 0, .bool false, .int .u64 0, .bool false] (by kernel_rfl) ?_
            refine K.RW.nil ?_
            refine K.thn_normal ?_
            refine K.KW.seq ?_
            -- 16 :172
            refine K.KW.region ?_
            refine K.RW.l rfl (K.OW.gcall hS [] [0, 1, 2] [] (awake07_ok _) ?_)
            clear hS; rintro _ _ w ⟨rfl, rfl⟩ hS
            replace hS : K.Sat w0 [l_19, g_2, fr] w := hS
            refine K.RW.qs [.bool true, .int .i64 1, .bool true, .bool true, .bool true, .pointer none, .bool true, .bool true, .bool true, .bool false, .bool true, .bool true, .bool true, .pointer none, .pointer (some ⟨r_1, 2, none⟩)] (by kernel_rfl) ?_
            refine K.RW.q rfl (by kernel_rfl) (K.QR.ld1 (v := .int .i64 a.at_) rfl rfl (by kernel_rfl) ((hS.blk 1 rfl hg_3).cell rfl)) ?_
            refine K.RW.l (by kernel_rfl) (K.OW.gcall hS [] [0, 1, 2] [.pointer none, .int .i64 0, .int .i64 a.at_] (mLoad_nil _ 0 a.at_) ?_)
            clear hS; rintro _ _ w ⟨rfl, rfl⟩ hS
            replace hS : K.Sat w0 [l_19, g_2, fr] w := hS
            refine K.RW.qs [.bool true, .bool true, .bool true, .pointer none, .pointer (some ⟨r_1, 2, none⟩)] (by kernel_rfl) ?_
            refine K.RW.q rfl (by kernel_rfl) (K.QR.ld1 (v := .int .i64 a.at_) rfl rfl (by kernel_rfl) ((hS.blk 1 rfl hg_3).cell rfl)) ?_
            refine K.RW.l (by kernel_rfl) (K.OW.gcall hS [] [0, 1, 2] [.pointer none, .int .i64 0, .int .i64 a.at_, .int .u64 0, .int .u64 0] (mSwap_nil _ 0 a.at_ 0 0) ?_)
            clear hS; rintro _ _ w ⟨rfl, rfl⟩ hS
            replace hS : K.Sat w0 [l_19, g_2, fr] w := hS
            refine K.RW.qs [.bool true, .bool true, .bool true, .pointer none] (by kernel_rfl) ?_
            refine K.RW.l (by kernel_rfl) (K.OW.gcall hS [] [0, 1, 2] [.pointer none] (mClock_nil _ ) ?_)
            clear hS; rintro _ _ w ⟨rfl, rfl⟩ hS
            replace hS : K.Sat w0 [l_19, g_2, fr] w := hS
            refine K.RW.qs [.bool true, .bool true, .bool true, .pointer none] (by kernel_rfl) ?_
            refine K.RW.l (by kernel_rfl) (K.OW.gcall hS [] [0, 1, 2] [.pointer none] (mBad_nil _ ) ?_)
            clear hS; rintro _ _ w ⟨rfl, rfl⟩ hS
            replace hS : K.Sat w0 [l_19, g_2, fr] w := hS
            refine K.RW.qs [.bool true, .bool true, .bool true, .pointer none, .pointer (some ⟨r_1, 2, none⟩)] (by kernel_rfl) ?_
            refine K.RW.q rfl (by kernel_rfl) (K.QR.ld1 (v := .int .i64 a.at_) rfl rfl (by kernel_rfl) ((hS.blk 1 rfl hg_3).cell rfl)) ?_
            refine K.RW.l (by kernel_rfl) (K.OW.gcall hS [] [0, 1, 2] [.pointer none, .int .i64 a.at_] (mWrites_nil _ a.at_) ?_)
            clear hS; rintro _ _ w ⟨rfl, rfl⟩ hS
            replace hS : K.Sat w0 [l_19, g_2, fr] w := hS
            refine K.RW.qs [.bool true, .bool true, .bool true, .pointer none] (by kernel_rfl) ?_
            refine K.RW.l (by kernel_rfl) (K.OW.gcall hS [] [0, 1, 2] [.pointer none] (mDevice_nil _ ) ?_)
            clear hS; rintro _ _ w ⟨rfl, rfl⟩ hS
            replace hS : K.Sat w0 [l_19, g_2, fr] w := hS
            refine K.RW.qs [.bool true, .bool true, .bool true, .pointer none] (by kernel_rfl) ?_
            refine K.RW.l (by kernel_rfl) (K.OW.gcall hS [] [0, 1, 2] [.pointer none] (mLast_nil _ ) ?_)
            clear hS; rintro _ _ w ⟨rfl, rfl⟩ hS
            replace hS : K.Sat w0 [l_19, g_2, fr] w := hS
            refine K.RW.q rfl (by kernel_rfl) (K.QR.bd [] [.int .i64 0, .int .i64 0, .int .i64 0, .int .u64 0, .int .u64 0, .bool false] rfl rfl (by kernel_rfl)) ?_
            refine K.RW.q rfl (by kernel_rfl) (K.QR.eqS (by kernel_rfl) rfl rfl rfl (eqAcc_t (⟨rfl, rfl, rfl, rfl, rfl, rfl⟩))) ?_
            refine K.RW.qs [.bool true, .bool true] (by kernel_rfl) ?_
            refine K.RW.nil ?_
            refine K.thn_normal ?_
            refine K.KW.ret ?_
            refine ⟨.inr rfl, rfl, (.bool true), K.res1 rfl rfl, [], ?_, hS.pick [2]⟩
            exact rfl
        ·  -- no
          refine K.RW.q rfl (by kernel_rfl) (K.QR.nice (v := .bool (decide ((k : Int) ≥ (0 : Int)))) (by kernel_rfl) (congrArg Value.bool (decide_eq_false h_34))) ?_
          refine K.RW.qs [.bool false, .bool false] (by kernel_rfl) ?_
          refine K.RW.skip rfl (by kernel_rfl) ?_
          refine K.RW.skip rfl (by kernel_rfl) ?_
          refine K.RW.qs [.bool false] (by kernel_rfl) ?_
          refine K.RW.nil ?_
          refine K.thn_normal ?_
          refine K.KW.ifF rfl ?_
          refine K.KW.skip ?_
          refine K.thn_normal ?_
          refine K.KW.seq ?_
          -- 14 :170
          refine K.KW.region ?_
          refine K.RW.qs [.pointer none] (by kernel_rfl) ?_
          refine K.RW.q rfl rfl (K.QR.ldN [.int .i64 a.kind, .int .i64 a.thread, .int .i64 a.at_, .int .u64 a.old, .int .u64 a.w] rfl rfl (by kernel_rfl) (by kernel_rfl) (K.cells (K.cl ((hS.blk 1 rfl hg_3).cell rfl) (K.cl ((hS.blk 1 rfl hg_3).cell rfl) (K.cl ((hS.blk 1 rfl hg_3).cell rfl) (K.cl ((hS.blk 1 rfl hg_3).cell rfl) (K.cl ((hS.blk 1 rfl hg_3).cell rfl) K.cl0))))))) ?_
          refine K.RW.l rfl (K.OW.gcall hS [] [0, 1, 2] [.pointer none, .agg #[.int .i64 a.kind, .int .i64 a.thread, .int .i64 a.at_, .int .u64 a.old, .int .u64 a.w]] (do7_nil _ a ha) ?_)
          clear hS; rintro _ _ w ⟨rfl, rfl⟩ hS
          replace hS : K.Sat w0 [l_19, g_2, fr] w := hS
          refine K.RW.nil ?_
          refine K.thn_normal ?_
          refine K.KW.seq ?_
          -- 15 :171
          refine K.KW.region ?_
          refine K.RW.qs [.pointer none, .pointer (some ⟨r_1, 2, none⟩)] (by kernel_rfl) ?_
          refine K.RW.q rfl rfl (K.QR.ld1 (v := .int .i64 a.at_) rfl rfl (by kernel_rfl) ((hS.blk 1 rfl hg_3).cell rfl)) ?_
          refine K.RW.l rfl (K.OW.gcall hS [] [0, 1, 2] [.pointer none, .int .i64 a.at_] (mPeek_nil _ a.at_) ?_)
          clear hS; rintro _ _ w ⟨rfl, rfl⟩ hS
          replace hS : K.Sat w0 [l_19, g_2, fr] w := hS
          refine K.RW.qs [.tuple #[.int .u64 0, .bool false], .int .u64 0, .bool false, .int .u64 0, .bool false] (by kernel_rfl) ?_
          refine K.RW.nil ?_
          refine K.thn_normal ?_
          refine K.KW.seq ?_
          -- 16 :172
          refine K.KW.region ?_
          refine K.RW.l rfl (K.OW.gcall hS [] [0, 1, 2] [] (awake07_ok _) ?_)
          clear hS; rintro _ _ w ⟨rfl, rfl⟩ hS
          replace hS : K.Sat w0 [l_19, g_2, fr] w := hS
          refine K.RW.qs [.bool true, .int .i64 1, .bool true, .bool true, .bool true, .pointer none, .bool true, .bool true, .bool true, .bool false, .bool true, .bool true, .bool true, .pointer none, .pointer (some ⟨r_1, 2, none⟩)] (by kernel_rfl) ?_
          refine K.RW.q rfl (by kernel_rfl) (K.QR.ld1 (v := .int .i64 a.at_) rfl rfl (by kernel_rfl) ((hS.blk 1 rfl hg_3).cell rfl)) ?_
          refine K.RW.l (by kernel_rfl) (K.OW.gcall hS [] [0, 1, 2] [.pointer none, .int .i64 0, .int .i64 a.at_] (mLoad_nil _ 0 a.at_) ?_)
          clear hS; rintro _ _ w ⟨rfl, rfl⟩ hS
          replace hS : K.Sat w0 [l_19, g_2, fr] w := hS
          refine K.RW.qs [.bool true, .bool true, .bool true, .pointer none, .pointer (some ⟨r_1, 2, none⟩)] (by kernel_rfl) ?_
          refine K.RW.q rfl (by kernel_rfl) (K.QR.ld1 (v := .int .i64 a.at_) rfl rfl (by kernel_rfl) ((hS.blk 1 rfl hg_3).cell rfl)) ?_
          refine K.RW.l (by kernel_rfl) (K.OW.gcall hS [] [0, 1, 2] [.pointer none, .int .i64 0, .int .i64 a.at_, .int .u64 0, .int .u64 0] (mSwap_nil _ 0 a.at_ 0 0) ?_)
          clear hS; rintro _ _ w ⟨rfl, rfl⟩ hS
          replace hS : K.Sat w0 [l_19, g_2, fr] w := hS
          refine K.RW.qs [.bool true, .bool true, .bool true, .pointer none] (by kernel_rfl) ?_
          refine K.RW.l (by kernel_rfl) (K.OW.gcall hS [] [0, 1, 2] [.pointer none] (mClock_nil _ ) ?_)
          clear hS; rintro _ _ w ⟨rfl, rfl⟩ hS
          replace hS : K.Sat w0 [l_19, g_2, fr] w := hS
          refine K.RW.qs [.bool true, .bool true, .bool true, .pointer none] (by kernel_rfl) ?_
          refine K.RW.l (by kernel_rfl) (K.OW.gcall hS [] [0, 1, 2] [.pointer none] (mBad_nil _ ) ?_)
          clear hS; rintro _ _ w ⟨rfl, rfl⟩ hS
          replace hS : K.Sat w0 [l_19, g_2, fr] w := hS
          refine K.RW.qs [.bool true, .bool true, .bool true, .pointer none, .pointer (some ⟨r_1, 2, none⟩)] (by kernel_rfl) ?_
          refine K.RW.q rfl (by kernel_rfl) (K.QR.ld1 (v := .int .i64 a.at_) rfl rfl (by kernel_rfl) ((hS.blk 1 rfl hg_3).cell rfl)) ?_
          refine K.RW.l (by kernel_rfl) (K.OW.gcall hS [] [0, 1, 2] [.pointer none, .int .i64 a.at_] (mWrites_nil _ a.at_) ?_)
          clear hS; rintro _ _ w ⟨rfl, rfl⟩ hS
          replace hS : K.Sat w0 [l_19, g_2, fr] w := hS
          refine K.RW.qs [.bool true, .bool true, .bool true, .pointer none] (by kernel_rfl) ?_
          refine K.RW.l (by kernel_rfl) (K.OW.gcall hS [] [0, 1, 2] [.pointer none] (mDevice_nil _ ) ?_)
          clear hS; rintro _ _ w ⟨rfl, rfl⟩ hS
          replace hS : K.Sat w0 [l_19, g_2, fr] w := hS
          refine K.RW.qs [.bool true, .bool true, .bool true, .pointer none] (by kernel_rfl) ?_
          refine K.RW.l (by kernel_rfl) (K.OW.gcall hS [] [0, 1, 2] [.pointer none] (mLast_nil _ ) ?_)
          clear hS; rintro _ _ w ⟨rfl, rfl⟩ hS
          replace hS : K.Sat w0 [l_19, g_2, fr] w := hS
          refine K.RW.q rfl (by kernel_rfl) (K.QR.bd [] [.int .i64 0, .int .i64 0, .int .i64 0, .int .u64 0, .int .u64 0, .bool false] rfl rfl (by kernel_rfl)) ?_
          refine K.RW.q rfl (by kernel_rfl) (K.QR.eqS (by kernel_rfl) rfl rfl rfl (eqAcc_t (⟨rfl, rfl, rfl, rfl, rfl, rfl⟩))) ?_
          refine K.RW.qs [.bool true, .bool true] (by kernel_rfl) ?_
          refine K.RW.nil ?_
          refine K.thn_normal ?_
          refine K.KW.ret ?_
          refine ⟨.inr rfl, rfl, (.bool true), K.res1 rfl rfl, [], ?_, hS.pick [2]⟩
          exact rfl
    ·
      exfalso; omega

set_option maxHeartbeats 1000000 in
set_option maxRecDepth 100000 in
theorem l7mayF_ok (w0 : World) (k : Int) (hk : isInt k) (a : ActP) (ha : a.good) :
    K.GC Try.prog w0 12 #[.bool false, .int .i64 k, .agg #[.int .i64 a.kind, .int .i64 a.thread, .int .i64 a.at_, .int .u64 a.old, .int .u64 a.w]] [] (fun v post => v = .bool true) := by
  have ha2 := ha; obtain ⟨hk0, hth, hat⟩ := ha2
  refine K.GC.mk (n := 149) Try.func12 rfl rfl [.bool false, .int .i64 k, .agg #[.int .i64 a.kind, .int .i64 a.thread, .int .i64 a.at_, .int .u64 a.old, .int .u64 a.w]] rfl rfl ?_
  intro fr w hS
  replace hS : K.Sat w0 [fr] w := hS
  refine K.KW.seq ?_
  -- 0 :152
  refine K.KW.region ?_
  refine K.RW.l rfl (K.OW.gnew 87 [.int .i64 a.kind, .int .i64 a.thread, .int .i64 a.at_, .int .u64 a.old, .int .u64 a.w] hS ?_)
  clear hS; intro w r_1 g_2 hg_3 hS
  refine K.RW.qs [.bool false] (by kernel_rfl) ?_
  refine K.RW.nil ?_
  refine K.thn_normal ?_
  refine K.KW.seq ?_
  refine K.KW.seq ?_
  -- 1 :153
  refine K.KW.region ?_
  refine K.RW.qs [.int .i64 k] (by kernel_rfl) ?_
  by_cases h_4 : (k : Int) > (300 : Int)
  ·  -- yes
    refine K.RW.q rfl rfl (K.QR.nice (v := .bool (decide ((k : Int) > (300 : Int)))) (by kernel_rfl) (congrArg Value.bool (decide_eq_true h_4))) ?_
    refine K.RW.qs [.bool true, .int .i64 k] (by kernel_rfl) ?_
    by_cases h_5 : (k : Int) ≤ (262144 : Int)
    ·  -- yes
      refine K.RW.q rfl (by kernel_rfl) (K.QR.nice (v := .bool (decide ((k : Int) ≤ (262144 : Int)))) (by kernel_rfl) (congrArg Value.bool (decide_eq_true h_5))) ?_
      refine K.RW.qs [.bool true] (by kernel_rfl) ?_
      refine K.RW.nil ?_
      refine K.thn_normal ?_
      refine K.KW.ifT rfl ?_
      refine K.KW.seq ?_
      -- 2 :154
      refine K.KW.region ?_
      refine K.RW.l rfl (K.OW.gcall hS [] [0, 1] [] (awake07_ok _) ?_)
      clear hS; rintro _ _ w ⟨rfl, rfl⟩ hS
      replace hS : K.Sat w0 [g_2, fr] w := hS
      refine K.RW.qs [.bool true] (by kernel_rfl) ?_
      refine K.RW.nil ?_
      refine K.thn_normal ?_
      refine K.KW.ret ?_
      refine K.thn_ret ?_
      refine ⟨.inr rfl, rfl, (.bool true), K.res1 rfl rfl, [], ?_, hS.pick [1]⟩
      exact rfl
    ·  -- no
      refine K.RW.q rfl (by kernel_rfl) (K.QR.nice (v := .bool (decide ((k : Int) ≤ (262144 : Int)))) (by kernel_rfl) (congrArg Value.bool (decide_eq_false h_5))) ?_
      refine K.RW.qs [.bool false] (by kernel_rfl) ?_
      refine K.RW.nil ?_
      refine K.thn_normal ?_
      refine K.KW.ifF rfl ?_
      refine K.KW.skip ?_
      refine K.thn_normal ?_
      refine K.KW.seq ?_
      -- 3 :156
      refine K.KW.region ?_
      refine K.RW.qs [.pointer none] (by kernel_rfl) ?_
      refine K.RW.nil ?_
      refine K.thn_normal ?_
      refine K.KW.seq ?_
      refine K.KW.seq ?_
      -- 4 :157
      refine K.KW.region ?_
      refine K.RW.qs [.bool false] (by kernel_rfl) ?_
      refine K.RW.nil ?_
      refine K.thn_normal ?_
      refine K.KW.ifF rfl ?_
      refine K.KW.skip ?_
      refine K.thn_normal ?_
      refine K.KW.seq ?_
      -- 9 :164
      refine K.KW.region ?_
      refine K.RW.qs [.pointer none, .int .i64 k] (by kernel_rfl) ?_
      refine K.RW.l rfl (K.OW.gcall hS [] [0, 1] [.pointer none, .int .i64 k] (mNew_nil _ k) ?_)
      clear hS; rintro _ _ w ⟨rfl, rfl⟩ hS
      replace hS : K.Sat w0 [g_2, fr] w := hS
      refine K.RW.qs [.tuple #[.pointer none, .int .i64 1], .pointer none, .int .i64 1, .pointer none, .int .i64 1] (by kernel_rfl) ?_
      refine K.RW.nil ?_
      refine K.thn_normal ?_
      refine K.KW.seq ?_
      refine K.KW.seq ?_
      -- 10 :165
      refine K.KW.region ?_
      refine K.RW.qs [.bool false, .bool false] (by kernel_rfl) ?_
      refine K.RW.skip rfl (by kernel_rfl) ?_
      refine K.RW.skip rfl (by kernel_rfl) ?_
      refine K.RW.qs [.bool false, .bool false] (by kernel_rfl) ?_
      refine K.RW.skip rfl (by kernel_rfl) ?_
      refine K.RW.skip rfl (by kernel_rfl) ?_
      refine K.RW.qs [.bool false] (by kernel_rfl) ?_
      refine K.RW.nil ?_
      refine K.thn_normal ?_
      refine K.KW.ifF rfl ?_
      refine K.KW.skip ?_
      refine K.thn_normal ?_
      refine K.KW.seq ?_
      -- 14 :170
      refine K.KW.region ?_
      refine K.RW.qs [.pointer none] (by kernel_rfl) ?_
      refine K.RW.q rfl rfl (K.QR.ldN [.int .i64 a.kind, .int .i64 a.thread, .int .i64 a.at_, .int .u64 a.old, .int .u64 a.w] rfl rfl (by kernel_rfl) (by kernel_rfl) (K.cells (K.cl ((hS.blk 0 rfl hg_3).cell rfl) (K.cl ((hS.blk 0 rfl hg_3).cell rfl) (K.cl ((hS.blk 0 rfl hg_3).cell rfl) (K.cl ((hS.blk 0 rfl hg_3).cell rfl) (K.cl ((hS.blk 0 rfl hg_3).cell rfl) K.cl0))))))) ?_
      refine K.RW.l rfl (K.OW.gcall hS [] [0, 1] [.pointer none, .agg #[.int .i64 a.kind, .int .i64 a.thread, .int .i64 a.at_, .int .u64 a.old, .int .u64 a.w]] (do7_nil _ a ha) ?_)
      clear hS; rintro _ _ w ⟨rfl, rfl⟩ hS
      replace hS : K.Sat w0 [g_2, fr] w := hS
      refine K.RW.nil ?_
      refine K.thn_normal ?_
      refine K.KW.seq ?_
      -- 15 :171
      refine K.KW.region ?_
      refine K.RW.qs [.pointer none, .pointer (some ⟨r_1, 2, none⟩)] (by kernel_rfl) ?_
      refine K.RW.q rfl rfl (K.QR.ld1 (v := .int .i64 a.at_) rfl rfl (by kernel_rfl) ((hS.blk 0 rfl hg_3).cell rfl)) ?_
      refine K.RW.l rfl (K.OW.gcall hS [] [0, 1] [.pointer none, .int .i64 a.at_] (mPeek_nil _ a.at_) ?_)
      clear hS; rintro _ _ w ⟨rfl, rfl⟩ hS
      replace hS : K.Sat w0 [g_2, fr] w := hS
      refine K.RW.qs [.tuple #[.int .u64 0, .bool false], .int .u64 0, .bool false, .int .u64 0, .bool false] (by kernel_rfl) ?_
      refine K.RW.nil ?_
      refine K.thn_normal ?_
      refine K.KW.seq ?_
      -- 16 :172
      refine K.KW.region ?_
      refine K.RW.l rfl (K.OW.gcall hS [] [0, 1] [] (awake07_ok _) ?_)
      clear hS; rintro _ _ w ⟨rfl, rfl⟩ hS
      replace hS : K.Sat w0 [g_2, fr] w := hS
      refine K.RW.qs [.bool true, .int .i64 1, .bool true, .bool true, .bool true, .pointer none, .bool true, .bool true, .bool true, .bool false, .bool true, .bool true, .bool true, .pointer none, .pointer (some ⟨r_1, 2, none⟩)] (by kernel_rfl) ?_
      refine K.RW.q rfl (by kernel_rfl) (K.QR.ld1 (v := .int .i64 a.at_) rfl rfl (by kernel_rfl) ((hS.blk 0 rfl hg_3).cell rfl)) ?_
      refine K.RW.l (by kernel_rfl) (K.OW.gcall hS [] [0, 1] [.pointer none, .int .i64 0, .int .i64 a.at_] (mLoad_nil _ 0 a.at_) ?_)
      clear hS; rintro _ _ w ⟨rfl, rfl⟩ hS
      replace hS : K.Sat w0 [g_2, fr] w := hS
      refine K.RW.qs [.bool true, .bool true, .bool true, .pointer none, .pointer (some ⟨r_1, 2, none⟩)] (by kernel_rfl) ?_
      refine K.RW.q rfl (by kernel_rfl) (K.QR.ld1 (v := .int .i64 a.at_) rfl rfl (by kernel_rfl) ((hS.blk 0 rfl hg_3).cell rfl)) ?_
      refine K.RW.l (by kernel_rfl) (K.OW.gcall hS [] [0, 1] [.pointer none, .int .i64 0, .int .i64 a.at_, .int .u64 0, .int .u64 0] (mSwap_nil _ 0 a.at_ 0 0) ?_)
      clear hS; rintro _ _ w ⟨rfl, rfl⟩ hS
      replace hS : K.Sat w0 [g_2, fr] w := hS
      refine K.RW.qs [.bool true, .bool true, .bool true, .pointer none] (by kernel_rfl) ?_
      refine K.RW.l (by kernel_rfl) (K.OW.gcall hS [] [0, 1] [.pointer none] (mClock_nil _ ) ?_)
      clear hS; rintro _ _ w ⟨rfl, rfl⟩ hS
      replace hS : K.Sat w0 [g_2, fr] w := hS
      refine K.RW.qs [.bool true, .bool true, .bool true, .pointer none] (by kernel_rfl) ?_
      refine K.RW.l (by kernel_rfl) (K.OW.gcall hS [] [0, 1] [.pointer none] (mBad_nil _ ) ?_)
      clear hS; rintro _ _ w ⟨rfl, rfl⟩ hS
      replace hS : K.Sat w0 [g_2, fr] w := hS
      refine K.RW.qs [.bool true, .bool true, .bool true, .pointer none, .pointer (some ⟨r_1, 2, none⟩)] (by kernel_rfl) ?_
      refine K.RW.q rfl (by kernel_rfl) (K.QR.ld1 (v := .int .i64 a.at_) rfl rfl (by kernel_rfl) ((hS.blk 0 rfl hg_3).cell rfl)) ?_
      refine K.RW.l (by kernel_rfl) (K.OW.gcall hS [] [0, 1] [.pointer none, .int .i64 a.at_] (mWrites_nil _ a.at_) ?_)
      clear hS; rintro _ _ w ⟨rfl, rfl⟩ hS
      replace hS : K.Sat w0 [g_2, fr] w := hS
      refine K.RW.qs [.bool true, .bool true, .bool true, .pointer none] (by kernel_rfl) ?_
      refine K.RW.l (by kernel_rfl) (K.OW.gcall hS [] [0, 1] [.pointer none] (mDevice_nil _ ) ?_)
      clear hS; rintro _ _ w ⟨rfl, rfl⟩ hS
      replace hS : K.Sat w0 [g_2, fr] w := hS
      refine K.RW.qs [.bool true, .bool true, .bool true, .pointer none] (by kernel_rfl) ?_
      refine K.RW.l (by kernel_rfl) (K.OW.gcall hS [] [0, 1] [.pointer none] (mLast_nil _ ) ?_)
      clear hS; rintro _ _ w ⟨rfl, rfl⟩ hS
      replace hS : K.Sat w0 [g_2, fr] w := hS
      refine K.RW.q rfl (by kernel_rfl) (K.QR.bd [] [.int .i64 0, .int .i64 0, .int .i64 0, .int .u64 0, .int .u64 0, .bool false] rfl rfl (by kernel_rfl)) ?_
      refine K.RW.q rfl (by kernel_rfl) (K.QR.eqS (by kernel_rfl) rfl rfl rfl (eqAcc_t (⟨rfl, rfl, rfl, rfl, rfl, rfl⟩))) ?_
      refine K.RW.qs [.bool true, .bool true] (by kernel_rfl) ?_
      refine K.RW.nil ?_
      refine K.thn_normal ?_
      refine K.KW.ret ?_
      refine ⟨.inr rfl, rfl, (.bool true), K.res1 rfl rfl, [], ?_, hS.pick [1]⟩
      exact rfl
  ·  -- no
    refine K.RW.q rfl rfl (K.QR.nice (v := .bool (decide ((k : Int) > (300 : Int)))) (by kernel_rfl) (congrArg Value.bool (decide_eq_false h_4))) ?_
    refine K.RW.qs [.bool false] (by kernel_rfl) ?_
    refine K.RW.skip rfl (by kernel_rfl) ?_
    refine K.RW.skip rfl (by kernel_rfl) ?_
    refine K.RW.qs [.bool false] (by kernel_rfl) ?_
    refine K.RW.nil ?_
    refine K.thn_normal ?_
    refine K.KW.ifF rfl ?_
    refine K.KW.skip ?_
    refine K.thn_normal ?_
    refine K.KW.seq ?_
    -- 3 :156
    refine K.KW.region ?_
    refine K.RW.qs [.pointer none] (by kernel_rfl) ?_
    refine K.RW.nil ?_
    refine K.thn_normal ?_
    refine K.KW.seq ?_
    refine K.KW.seq ?_
    -- 4 :157
    refine K.KW.region ?_
    refine K.RW.qs [.bool false] (by kernel_rfl) ?_
    refine K.RW.nil ?_
    refine K.thn_normal ?_
    refine K.KW.ifF rfl ?_
    refine K.KW.skip ?_
    refine K.thn_normal ?_
    refine K.KW.seq ?_
    -- 9 :164
    refine K.KW.region ?_
    refine K.RW.qs [.pointer none, .int .i64 k] (by kernel_rfl) ?_
    refine K.RW.l rfl (K.OW.gcall hS [] [0, 1] [.pointer none, .int .i64 k] (mNew_nil _ k) ?_)
    clear hS; rintro _ _ w ⟨rfl, rfl⟩ hS
    replace hS : K.Sat w0 [g_2, fr] w := hS
    refine K.RW.qs [.tuple #[.pointer none, .int .i64 1], .pointer none, .int .i64 1, .pointer none, .int .i64 1] (by kernel_rfl) ?_
    refine K.RW.nil ?_
    refine K.thn_normal ?_
    refine K.KW.seq ?_
    refine K.KW.seq ?_
    -- 10 :165
    refine K.KW.region ?_
    refine K.RW.qs [.bool false, .bool false] (by kernel_rfl) ?_
    refine K.RW.skip rfl (by kernel_rfl) ?_
    refine K.RW.skip rfl (by kernel_rfl) ?_
    refine K.RW.qs [.bool false, .bool false] (by kernel_rfl) ?_
    refine K.RW.skip rfl (by kernel_rfl) ?_
    refine K.RW.skip rfl (by kernel_rfl) ?_
    refine K.RW.qs [.bool false] (by kernel_rfl) ?_
    refine K.RW.nil ?_
    refine K.thn_normal ?_
    refine K.KW.ifF rfl ?_
    refine K.KW.skip ?_
    refine K.thn_normal ?_
    refine K.KW.seq ?_
    -- 14 :170
    refine K.KW.region ?_
    refine K.RW.qs [.pointer none] (by kernel_rfl) ?_
    refine K.RW.q rfl rfl (K.QR.ldN [.int .i64 a.kind, .int .i64 a.thread, .int .i64 a.at_, .int .u64 a.old, .int .u64 a.w] rfl rfl (by kernel_rfl) (by kernel_rfl) (K.cells (K.cl ((hS.blk 0 rfl hg_3).cell rfl) (K.cl ((hS.blk 0 rfl hg_3).cell rfl) (K.cl ((hS.blk 0 rfl hg_3).cell rfl) (K.cl ((hS.blk 0 rfl hg_3).cell rfl) (K.cl ((hS.blk 0 rfl hg_3).cell rfl) K.cl0))))))) ?_
    refine K.RW.l rfl (K.OW.gcall hS [] [0, 1] [.pointer none, .agg #[.int .i64 a.kind, .int .i64 a.thread, .int .i64 a.at_, .int .u64 a.old, .int .u64 a.w]] (do7_nil _ a ha) ?_)
    clear hS; rintro _ _ w ⟨rfl, rfl⟩ hS
    replace hS : K.Sat w0 [g_2, fr] w := hS
    refine K.RW.nil ?_
    refine K.thn_normal ?_
    refine K.KW.seq ?_
    -- 15 :171
    refine K.KW.region ?_
    refine K.RW.qs [.pointer none, .pointer (some ⟨r_1, 2, none⟩)] (by kernel_rfl) ?_
    refine K.RW.q rfl rfl (K.QR.ld1 (v := .int .i64 a.at_) rfl rfl (by kernel_rfl) ((hS.blk 0 rfl hg_3).cell rfl)) ?_
    refine K.RW.l rfl (K.OW.gcall hS [] [0, 1] [.pointer none, .int .i64 a.at_] (mPeek_nil _ a.at_) ?_)
    clear hS; rintro _ _ w ⟨rfl, rfl⟩ hS
    replace hS : K.Sat w0 [g_2, fr] w := hS
    refine K.RW.qs [.tuple #[.int .u64 0, .bool false], .int .u64 0, .bool false, .int .u64 0, .bool false] (by kernel_rfl) ?_
    refine K.RW.nil ?_
    refine K.thn_normal ?_
    refine K.KW.seq ?_
    -- 16 :172
    refine K.KW.region ?_
    refine K.RW.l rfl (K.OW.gcall hS [] [0, 1] [] (awake07_ok _) ?_)
    clear hS; rintro _ _ w ⟨rfl, rfl⟩ hS
    replace hS : K.Sat w0 [g_2, fr] w := hS
    refine K.RW.qs [.bool true, .int .i64 1, .bool true, .bool true, .bool true, .pointer none, .bool true, .bool true, .bool true, .bool false, .bool true, .bool true, .bool true, .pointer none, .pointer (some ⟨r_1, 2, none⟩)] (by kernel_rfl) ?_
    refine K.RW.q rfl (by kernel_rfl) (K.QR.ld1 (v := .int .i64 a.at_) rfl rfl (by kernel_rfl) ((hS.blk 0 rfl hg_3).cell rfl)) ?_
    refine K.RW.l (by kernel_rfl) (K.OW.gcall hS [] [0, 1] [.pointer none, .int .i64 0, .int .i64 a.at_] (mLoad_nil _ 0 a.at_) ?_)
    clear hS; rintro _ _ w ⟨rfl, rfl⟩ hS
    replace hS : K.Sat w0 [g_2, fr] w := hS
    refine K.RW.qs [.bool true, .bool true, .bool true, .pointer none, .pointer (some ⟨r_1, 2, none⟩)] (by kernel_rfl) ?_
    refine K.RW.q rfl (by kernel_rfl) (K.QR.ld1 (v := .int .i64 a.at_) rfl rfl (by kernel_rfl) ((hS.blk 0 rfl hg_3).cell rfl)) ?_
    refine K.RW.l (by kernel_rfl) (K.OW.gcall hS [] [0, 1] [.pointer none, .int .i64 0, .int .i64 a.at_, .int .u64 0, .int .u64 0] (mSwap_nil _ 0 a.at_ 0 0) ?_)
    clear hS; rintro _ _ w ⟨rfl, rfl⟩ hS
    replace hS : K.Sat w0 [g_2, fr] w := hS
    refine K.RW.qs [.bool true, .bool true, .bool true, .pointer none] (by kernel_rfl) ?_
    refine K.RW.l (by kernel_rfl) (K.OW.gcall hS [] [0, 1] [.pointer none] (mClock_nil _ ) ?_)
    clear hS; rintro _ _ w ⟨rfl, rfl⟩ hS
    replace hS : K.Sat w0 [g_2, fr] w := hS
    refine K.RW.qs [.bool true, .bool true, .bool true, .pointer none] (by kernel_rfl) ?_
    refine K.RW.l (by kernel_rfl) (K.OW.gcall hS [] [0, 1] [.pointer none] (mBad_nil _ ) ?_)
    clear hS; rintro _ _ w ⟨rfl, rfl⟩ hS
    replace hS : K.Sat w0 [g_2, fr] w := hS
    refine K.RW.qs [.bool true, .bool true, .bool true, .pointer none, .pointer (some ⟨r_1, 2, none⟩)] (by kernel_rfl) ?_
    refine K.RW.q rfl (by kernel_rfl) (K.QR.ld1 (v := .int .i64 a.at_) rfl rfl (by kernel_rfl) ((hS.blk 0 rfl hg_3).cell rfl)) ?_
    refine K.RW.l (by kernel_rfl) (K.OW.gcall hS [] [0, 1] [.pointer none, .int .i64 a.at_] (mWrites_nil _ a.at_) ?_)
    clear hS; rintro _ _ w ⟨rfl, rfl⟩ hS
    replace hS : K.Sat w0 [g_2, fr] w := hS
    refine K.RW.qs [.bool true, .bool true, .bool true, .pointer none] (by kernel_rfl) ?_
    refine K.RW.l (by kernel_rfl) (K.OW.gcall hS [] [0, 1] [.pointer none] (mDevice_nil _ ) ?_)
    clear hS; rintro _ _ w ⟨rfl, rfl⟩ hS
    replace hS : K.Sat w0 [g_2, fr] w := hS
    refine K.RW.qs [.bool true, .bool true, .bool true, .pointer none] (by kernel_rfl) ?_
    refine K.RW.l (by kernel_rfl) (K.OW.gcall hS [] [0, 1] [.pointer none] (mLast_nil _ ) ?_)
    clear hS; rintro _ _ w ⟨rfl, rfl⟩ hS
    replace hS : K.Sat w0 [g_2, fr] w := hS
    refine K.RW.q rfl (by kernel_rfl) (K.QR.bd [] [.int .i64 0, .int .i64 0, .int .i64 0, .int .u64 0, .int .u64 0, .bool false] rfl rfl (by kernel_rfl)) ?_
    refine K.RW.q rfl (by kernel_rfl) (K.QR.eqS (by kernel_rfl) rfl rfl rfl (eqAcc_t (⟨rfl, rfl, rfl, rfl, rfl, rfl⟩))) ?_
    refine K.RW.qs [.bool true, .bool true] (by kernel_rfl) ?_
    refine K.RW.nil ?_
    refine K.thn_normal ?_
    refine K.KW.ret ?_
    refine ⟨.inr rfl, rfl, (.bool true), K.res1 rfl rfl, [], ?_, hS.pick [1]⟩
    exact rfl

end Go.Proofs.Ytgeihjiichdpbaa
