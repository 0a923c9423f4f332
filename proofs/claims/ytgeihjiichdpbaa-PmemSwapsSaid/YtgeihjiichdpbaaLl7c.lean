/- PmemSwaps. -/
import Derived.Test.YtgeihjiichdpbaaLl7
namespace Go.Proofs.Ytgeihjiichdpbaa
open Go.RowKit
set_option linter.unusedVariables false
attribute [local irreducible] K.KW K.RW K.DW K.OW K.QR K.KC

set_option maxHeartbeats 1000000 in
set_option maxRecDepth 100000 in
theorem l7swaps_ok (w0 : World) (a : Option Addr) (cap : Nat) (xs : List Int) (hm : xs.length ≤ 9223372036854775807) (hc : xs.length ≤ cap) (hx : RU64 w0 a xs) (at_ u0 u1 u2 : Int) (hat : isInt at_) :
    K.GC Try.prog w0 3 #[.slice a xs.length cap, .int .i64 at_, .agg #[.int .u64 u0, .int .u64 u1, .int .u64 u2]] [] (fun v post => v = .bool true) := by
  refine K.GC.mk (n := 117) Try.func3 rfl rfl [.slice a xs.length cap, .int .i64 at_, .agg #[.int .u64 u0, .int .u64 u1, .int .u64 u2]] rfl rfl ?_
  intro fr w hS
  replace hS : K.Sat w0 [fr] w := hS
  refine K.KW.seq ?_
  -- 0 :130
  refine K.KW.region ?_
  refine K.RW.l rfl (K.OW.gnew 24 [.int .u64 u0, .int .u64 u1, .int .u64 u2] hS ?_)
  clear hS; intro w r_1 g_2 hg_3 hS
  refine K.RW.qs [.bool false] (by kernel_rfl) ?_
  refine K.RW.nil ?_
  refine K.thn_normal ?_
  refine K.KW.seq ?_
  refine K.KW.seq ?_
  -- 1 :131
  refine K.KW.region ?_
  refine K.RW.qs [.slice a xs.length cap] (by kernel_rfl) ?_
  refine K.RW.q rfl rfl (K.QR.len (P := Try.prog) rfl rfl Try.underlying22) ?_
  by_cases h_4 : (((xs.length : Nat) : Int) : Int) > (60 : Int)
  ·  -- yes
    refine K.RW.q rfl rfl (K.QR.nice (v := .bool (decide ((((xs.length : Nat) : Int) : Int) > (60 : Int)))) (by kernel_rfl) (congrArg Value.bool (decide_eq_true h_4))) ?_
    refine K.RW.nil ?_
    refine K.thn_normal ?_
    refine K.KW.ifT rfl ?_
    refine K.KW.seq ?_
    -- 2 :132
    refine K.KW.region ?_
    refine K.RW.l rfl (K.OW.gcall hS [] [0, 1] [] (awake07_ok _) ?_)
    clear hS; rintro _ _ w ⟨rfl, rfl⟩ hS
    replace hS : K.Sat w0 [g_2, fr] w := hS
    refine K.RW.qs [.bool true] (by kernel_rfl) ?_
    refine K.RW.nil ?_
    refine K.thn_normal ?_
    refine K.KW.ret ?_
    refine K.thn_ret ?_
    refine ⟨.inr rfl, rfl, (.bool true), K.res1 rfl rfl, [], ?_, hS.pick [1]⟩
    exact rfl
  ·  -- no
    refine K.RW.q rfl rfl (K.QR.nice (v := .bool (decide ((((xs.length : Nat) : Int) : Int) > (60 : Int)))) (by kernel_rfl) (congrArg Value.bool (decide_eq_false h_4))) ?_
    refine K.RW.nil ?_
    refine K.thn_normal ?_
    refine K.KW.ifF rfl ?_
    refine K.KW.skip ?_
    refine K.thn_normal ?_
    refine K.KW.seq ?_
    -- 3 :134
    refine K.KW.region ?_
    refine K.RW.qs [.slice a xs.length cap] (by kernel_rfl) ?_
    refine K.RW.l rfl (K.OW.gcall hS [] [0, 1] [.slice a xs.length cap, .int .i64 3] (both7_ok _ _ _ xs (3 : Int) (by omega) (by omega) (by omega) hx) ?_)
    clear hS; rintro _ _ w (⟨p_5, r_6, q_7, u_8, n_9, l_10, m_11, rfl, rfl, x_12, y_13, hn_14, hn2_15, h_16, hk_17⟩ | ⟨rfl, rfl, h_18⟩) hS
    ·
      replace hS : K.Sat w0 [l_10, m_11, g_2, fr] w := hS
      refine K.RW.qs [.tuple #[.pointer (some ⟨p_5, 0, none⟩), .pointer (some ⟨r_6, 0, none⟩), .bool true], .pointer (some ⟨p_5, 0, none⟩), .pointer (some ⟨r_6, 0, none⟩), .bool true, .pointer (some ⟨p_5, 0, none⟩), .pointer (some ⟨r_6, 0, none⟩), .bool true] (by kernel_rfl) ?_
      refine K.RW.nil ?_
      refine K.thn_normal ?_
      refine K.KW.seq ?_
      refine K.KW.seq ?_
      -- 4 :135
      refine K.KW.region ?_
      refine K.RW.qs [.bool true, .bool false] (by kernel_rfl) ?_
      refine K.RW.nil ?_
      refine K.thn_normal ?_
      refine K.KW.ifF rfl ?_
      refine K.KW.skip ?_
      refine K.thn_normal ?_
      refine K.KW.seq ?_
      -- 6 :138
      have hok0 := (MemAt.isok x_12).1
      refine K.KW.region ?_
      refine K.RW.qs [.pointer (some ⟨p_5, 0, none⟩), .int .i64 at_] (by kernel_rfl) ?_
      refine K.RW.l rfl (K.OW.gcall hS [0] [1, 2, 3] [.pointer (some ⟨p_5, 0, none⟩), .int .i64 at_] (mPeek_ok _ _ _ _ _ _ _ x_12 at_ (by omega)) ?_)
      clear hS; rintro _ _ w ⟨rfl, (⟨y_19, rfl, h_20⟩ | ⟨rfl, h_21⟩)⟩ hS
      ·
        replace hS : K.Sat w0 [l_10, m_11, g_2, fr] w := hS
        refine K.RW.qs [.tuple #[.int .u64 y_19, .bool true], .int .u64 y_19, .bool true, .int .u64 y_19, .bool true] (by kernel_rfl) ?_
        refine K.RW.nil ?_
        refine K.thn_normal ?_
        refine K.KW.seq ?_
        -- 7 :139
        refine K.KW.region ?_
        refine K.RW.qs [.pointer (some ⟨p_5, 0, none⟩), .int .i64 at_, .int .u64 y_19] (by kernel_rfl) ?_
        refine K.RW.q rfl rfl (K.QR.ixA 0 1 rfl rfl rfl Try.underlying24 (by kernel_rfl) (by omega) (by first | rfl | simp)) ?_
        refine K.RW.q rfl rfl (K.QR.ld1 (v := .int .u64 u0) rfl rfl (by kernel_rfl) ((hS.blk 2 rfl hg_3).cell rfl)) ?_
        refine K.RW.l rfl (K.OW.gcall hS [0] [1, 2, 3] [.pointer (some ⟨p_5, 0, none⟩), .int .i64 0, .int .i64 at_, .int .u64 y_19, .int .u64 u0] (mSwapB_ok _ _ _ _ _ _ _ x_12 (0 : Int) at_ (by omega) y_19 u0 true ((accW_t h_20 (MemAt.isok x_12).1).1)) ?_)
        clear hS; rintro _ _ w ⟨l_22, rfl, rfl, x_23⟩ hS
        replace hS : K.Sat w0 [l_22, m_11, g_2, fr] w := hS
        obtain ⟨_, hp1, hb1, hc1, hk1⟩ := accW_t (th := (0 : Int)) (w := u0) h_20 hok0
        refine K.RW.qs [.bool true] (by kernel_rfl) ?_
        refine K.RW.nil ?_
        refine K.thn_normal ?_
        refine K.KW.seq ?_
        -- 8 :140
        by_cases h_24 : (u0 : Int) = (y_19 : Int)
        ·  -- yes
          -- 8 :140
          refine K.KW.region ?_
          refine K.RW.qs [.pointer (some ⟨p_5, 0, none⟩), .int .i64 at_, .int .u64 y_19] (by kernel_rfl) ?_
          refine K.RW.q rfl rfl (K.QR.ixA 1 1 rfl rfl rfl Try.underlying24 (by kernel_rfl) (by omega) (by first | rfl | simp)) ?_
          refine K.RW.q rfl rfl (K.QR.ld1 (v := .int .u64 u1) rfl rfl (by kernel_rfl) ((hS.blk 2 rfl hg_3).cell rfl)) ?_
          refine K.RW.l rfl (K.OW.gcall hS [0] [1, 2, 3] [.pointer (some ⟨p_5, 0, none⟩), .int .i64 1, .int .i64 at_, .int .u64 y_19, .int .u64 u1] (mSwapB_ok _ _ _ _ _ _ _ x_23 (1 : Int) at_ (by omega) y_19 u1 true ((accW_t (hp1.trans (congrArg some h_24)) hk1).1)) ?_)
          clear hS; rintro _ _ w ⟨l_25, rfl, rfl, x_26⟩ hS
          replace hS : K.Sat w0 [l_25, m_11, g_2, fr] w := hS
          obtain ⟨_, hp2, hb2, hc2, hk2⟩ := accW_t (th := (1 : Int)) (w := u1) (hp1.trans (congrArg some h_24)) hk1
          refine K.RW.qs [.bool true] (by kernel_rfl) ?_
          refine K.RW.nil ?_
          refine K.thn_normal ?_
          refine K.KW.seq ?_
          -- 9 :141
          refine K.KW.region ?_
          refine K.RW.qs [.pointer (some ⟨p_5, 0, none⟩), .int .i64 at_] (by kernel_rfl) ?_
          refine K.RW.l rfl (K.OW.gcall hS [0] [1, 2, 3] [.pointer (some ⟨p_5, 0, none⟩), .int .i64 at_] (mPeekS_ok _ _ _ _ _ _ _ x_26 at_ (by omega) u1 (hp2)) ?_)
          clear hS; rintro _ _ w ⟨rfl, rfl⟩ hS
          replace hS : K.Sat w0 [l_25, m_11, g_2, fr] w := hS
          refine K.RW.qs [.tuple #[.int .u64 u1, .bool true], .int .u64 u1, .bool true, .int .u64 u1, .bool true] (by kernel_rfl) ?_
          refine K.RW.nil ?_
          refine K.thn_normal ?_
          refine K.KW.seq ?_
          refine K.KW.seq ?_
          -- 10 :142
          refine K.KW.region ?_
          refine K.RW.qs [.bool true, .bool false] (by kernel_rfl) ?_
          refine K.RW.nil ?_
          refine K.thn_normal ?_
          refine K.KW.ifF rfl ?_
          refine K.KW.skip ?_
          refine K.thn_normal ?_
          refine K.KW.seq ?_
          refine K.KW.seq ?_
          -- 12 :145
          refine K.KW.region ?_
          refine K.RW.q rfl rfl (K.QR.ixA 0 1 rfl rfl rfl Try.underlying24 (by kernel_rfl) (by omega) (by first | rfl | simp)) ?_
          refine K.RW.q rfl rfl (K.QR.ld1 (v := .int .u64 u0) rfl rfl (by kernel_rfl) ((hS.blk 2 rfl hg_3).cell rfl)) ?_
          refine K.RW.qs [.int .u64 y_19] (by kernel_rfl) ?_
          refine K.RW.q rfl rfl (K.QR.nice (v := .bool ((u0 : Int) == (y_19 : Int))) (by kernel_rfl) (congrArg Value.bool (beq_iff_eq.2 h_24))) ?_
          refine K.RW.nil ?_
          refine K.thn_normal ?_
          refine K.KW.ifT rfl ?_
          refine K.KW.seq ?_
          -- 13 :146
          refine K.KW.region ?_
          refine K.RW.l rfl (K.OW.gcall hS [] [0, 1, 2, 3] [] (awake07_ok _) ?_)
          clear hS; rintro _ _ w ⟨rfl, rfl⟩ hS
          replace hS : K.Sat w0 [l_25, m_11, g_2, fr] w := hS
          refine K.RW.qs [.bool true, .bool true, .bool true, .bool true, .bool true, .bool true, .bool true, .int .u64 u1] (by kernel_rfl) ?_
          refine K.RW.q rfl (by kernel_rfl) (K.QR.ixA 1 1 rfl rfl rfl Try.underlying24 (by kernel_rfl) (by omega) (by first | rfl | simp)) ?_
          refine K.RW.q rfl (by kernel_rfl) (K.QR.ld1 (v := .int .u64 u1) rfl rfl (by kernel_rfl) ((hS.blk 2 rfl hg_3).cell rfl)) ?_
          refine K.RW.q rfl (by kernel_rfl) (K.QR.nice (v := .bool ((u1 : Int) == (u1 : Int))) (by kernel_rfl) (congrArg Value.bool (beq_iff_eq.2 rfl))) ?_
          refine K.RW.qs [.bool true, .bool true] (by kernel_rfl) ?_
          refine K.RW.nil ?_
          refine K.thn_normal ?_
          refine K.KW.ret ?_
          refine K.thn_ret ?_
          refine ⟨.inr rfl, rfl, (.bool true), K.res1 rfl rfl, [], ?_, hS.pick [3]⟩
          exact rfl
        ·  -- no
          -- 8 :140
          refine K.KW.region ?_
          refine K.RW.qs [.pointer (some ⟨p_5, 0, none⟩), .int .i64 at_, .int .u64 y_19] (by kernel_rfl) ?_
          refine K.RW.q rfl rfl (K.QR.ixA 1 1 rfl rfl rfl Try.underlying24 (by kernel_rfl) (by omega) (by first | rfl | simp)) ?_
          refine K.RW.q rfl rfl (K.QR.ld1 (v := .int .u64 u1) rfl rfl (by kernel_rfl) ((hS.blk 2 rfl hg_3).cell rfl)) ?_
          refine K.RW.l rfl (K.OW.gcall hS [0] [1, 2, 3] [.pointer (some ⟨p_5, 0, none⟩), .int .i64 1, .int .i64 at_, .int .u64 y_19, .int .u64 u1] (mSwapB_ok _ _ _ _ _ _ _ x_23 (1 : Int) at_ (by omega) y_19 u1 false ((accW_f hp1 h_24).1)) ?_)
          clear hS; rintro _ _ w ⟨l_27, rfl, rfl, x_28⟩ hS
          replace hS : K.Sat w0 [l_27, m_11, g_2, fr] w := hS
          obtain ⟨_, hp2, hb2, hc2⟩ := accW_f (th := (1 : Int)) (w := u1) hp1 h_24
          refine K.RW.qs [.bool false] (by kernel_rfl) ?_
          refine K.RW.nil ?_
          refine K.thn_normal ?_
          refine K.KW.seq ?_
          -- 9 :141
          refine K.KW.region ?_
          refine K.RW.qs [.pointer (some ⟨p_5, 0, none⟩), .int .i64 at_] (by kernel_rfl) ?_
          refine K.RW.l rfl (K.OW.gcall hS [0] [1, 2, 3] [.pointer (some ⟨p_5, 0, none⟩), .int .i64 at_] (mPeekS_ok _ _ _ _ _ _ _ x_28 at_ (by omega) u0 (hp2)) ?_)
          clear hS; rintro _ _ w ⟨rfl, rfl⟩ hS
          replace hS : K.Sat w0 [l_27, m_11, g_2, fr] w := hS
          refine K.RW.qs [.tuple #[.int .u64 u0, .bool true], .int .u64 u0, .bool true, .int .u64 u0, .bool true] (by kernel_rfl) ?_
          refine K.RW.nil ?_
          refine K.thn_normal ?_
          refine K.KW.seq ?_
          refine K.KW.seq ?_
          -- 10 :142
          refine K.KW.region ?_
          refine K.RW.qs [.bool true, .bool false] (by kernel_rfl) ?_
          refine K.RW.nil ?_
          refine K.thn_normal ?_
          refine K.KW.ifF rfl ?_
          refine K.KW.skip ?_
          refine K.thn_normal ?_
          refine K.KW.seq ?_
          refine K.KW.seq ?_
          -- 12 :145
          refine K.KW.region ?_
          refine K.RW.q rfl rfl (K.QR.ixA 0 1 rfl rfl rfl Try.underlying24 (by kernel_rfl) (by omega) (by first | rfl | simp)) ?_
          refine K.RW.q rfl rfl (K.QR.ld1 (v := .int .u64 u0) rfl rfl (by kernel_rfl) ((hS.blk 2 rfl hg_3).cell rfl)) ?_
          refine K.RW.qs [.int .u64 y_19] (by kernel_rfl) ?_
          refine K.RW.q rfl rfl (K.QR.nice (v := .bool ((u0 : Int) == (y_19 : Int))) (by kernel_rfl) (congrArg Value.bool (beq_eq_false_iff_ne.2 h_24))) ?_
          refine K.RW.nil ?_
          refine K.thn_normal ?_
          refine K.KW.ifF rfl ?_
          refine K.KW.skip ?_
          refine K.thn_normal ?_
          refine K.KW.seq ?_
          -- 14 :148
          refine K.KW.region ?_
          refine K.RW.l rfl (K.OW.gcall hS [] [0, 1, 2, 3] [] (awake07_ok _) ?_)
          clear hS; rintro _ _ w ⟨rfl, rfl⟩ hS
          replace hS : K.Sat w0 [l_27, m_11, g_2, fr] w := hS
          refine K.RW.qs [.bool true, .bool true, .bool true, .bool true, .bool false, .bool true, .bool true, .bool true, .int .u64 u0] (by kernel_rfl) ?_
          refine K.RW.q rfl (by kernel_rfl) (K.QR.ixA 0 1 rfl rfl rfl Try.underlying24 (by kernel_rfl) (by omega) (by first | rfl | simp)) ?_
          refine K.RW.q rfl (by kernel_rfl) (K.QR.ld1 (v := .int .u64 u0) rfl rfl (by kernel_rfl) ((hS.blk 2 rfl hg_3).cell rfl)) ?_
          refine K.RW.q rfl (by kernel_rfl) (K.QR.nice (v := .bool ((u0 : Int) == (u0 : Int))) (by kernel_rfl) (congrArg Value.bool (beq_iff_eq.2 rfl))) ?_
          refine K.RW.qs [.bool true, .bool true, .pointer (some ⟨p_5, 0, none⟩)] (by kernel_rfl) ?_
          refine K.RW.l (by kernel_rfl) (K.OW.gcall hS [0] [1, 2, 3] [.pointer (some ⟨p_5, 0, none⟩)] (mBad_ok _ _ _ _ _ _ _ x_28 ) ?_)
          clear hS; rintro _ _ w ⟨rfl, rfl⟩ hS
          replace hS : K.Sat w0 [l_27, m_11, g_2, fr] w := hS
          refine K.RW.q rfl (by kernel_rfl) (K.QR.nice (v := .bool (((((((MemM.of (DevM.fresh xs n_9 3) 3).accW n_9 (0 : Int) at_ y_19 u0).1).accW n_9 (1 : Int) at_ y_19 u1).1).bad : Int) == (0 : Int))) (by kernel_rfl) (congrArg Value.bool (beq_iff_eq.2 (hb2.trans (hb1.trans rfl))))) ?_
          refine K.RW.qs [.bool true, .bool true, .pointer (some ⟨p_5, 0, none⟩)] (by kernel_rfl) ?_
          refine K.RW.l (by kernel_rfl) (K.OW.gcall hS [0] [1, 2, 3] [.pointer (some ⟨p_5, 0, none⟩)] (mClock_ok _ _ _ _ _ _ _ x_28 ) ?_)
          clear hS; rintro _ _ w ⟨rfl, rfl⟩ hS
          replace hS : K.Sat w0 [l_27, m_11, g_2, fr] w := hS
          refine K.RW.q rfl (by kernel_rfl) (K.QR.nice (v := .bool (((((((MemM.of (DevM.fresh xs n_9 3) 3).accW n_9 (0 : Int) at_ y_19 u0).1).accW n_9 (1 : Int) at_ y_19 u1).1).clock : Int) == (2 : Int))) (by kernel_rfl) (congrArg Value.bool (beq_iff_eq.2 (hc2.trans ((congrArg i64s hc1).trans rfl))))) ?_
          refine K.RW.qs [.bool true, .bool true] (by kernel_rfl) ?_
          refine K.RW.nil ?_
          refine K.thn_normal ?_
          refine K.KW.ret ?_
          refine ⟨.inr rfl, rfl, (.bool true), K.res1 rfl rfl, [], ?_, hS.pick [3]⟩
          exact rfl
      ·
        replace hS : K.Sat w0 [l_10, m_11, g_2, fr] w := hS
        refine K.RW.qs [.tuple #[.int .u64 0, .bool false], .int .u64 0, .bool false, .int .u64 0, .bool false] (by kernel_rfl) ?_
        refine K.RW.nil ?_
        refine K.thn_normal ?_
        refine K.KW.seq ?_
        -- 7 :139
        refine K.KW.region ?_
        refine K.RW.qs [.pointer (some ⟨p_5, 0, none⟩), .int .i64 at_, .int .u64 0] (by kernel_rfl) ?_
        refine K.RW.q rfl rfl (K.QR.ixA 0 1 rfl rfl rfl Try.underlying24 (by kernel_rfl) (by omega) (by first | rfl | simp)) ?_
        refine K.RW.q rfl rfl (K.QR.ld1 (v := .int .u64 u0) rfl rfl (by kernel_rfl) ((hS.blk 2 rfl hg_3).cell rfl)) ?_
        refine K.RW.l rfl (K.OW.gcall hS [0] [1, 2, 3] [.pointer (some ⟨p_5, 0, none⟩), .int .i64 0, .int .i64 at_, .int .u64 0, .int .u64 u0] (mSwapB_ok _ _ _ _ _ _ _ x_12 (0 : Int) at_ (by omega) (0 : Int) u0 false ((accW_n h_21).1)) ?_)
        clear hS; rintro _ _ w ⟨l_29, rfl, rfl, x_30⟩ hS
        replace hS : K.Sat w0 [l_29, m_11, g_2, fr] w := hS
        obtain ⟨_, hp1, hb1, hd1⟩ := accW_n (th := (0 : Int)) (old := (0 : Int)) (w := u0) h_21
        refine K.RW.qs [.bool false] (by kernel_rfl) ?_
        refine K.RW.nil ?_
        refine K.thn_normal ?_
        refine K.KW.seq ?_
        -- 8 :140
        refine K.KW.region ?_
        refine K.RW.qs [.pointer (some ⟨p_5, 0, none⟩), .int .i64 at_, .int .u64 0] (by kernel_rfl) ?_
        refine K.RW.q rfl rfl (K.QR.ixA 1 1 rfl rfl rfl Try.underlying24 (by kernel_rfl) (by omega) (by first | rfl | simp)) ?_
        refine K.RW.q rfl rfl (K.QR.ld1 (v := .int .u64 u1) rfl rfl (by kernel_rfl) ((hS.blk 2 rfl hg_3).cell rfl)) ?_
        refine K.RW.l rfl (K.OW.gcall hS [0] [1, 2, 3] [.pointer (some ⟨p_5, 0, none⟩), .int .i64 1, .int .i64 at_, .int .u64 0, .int .u64 u1] (mSwapB_ok _ _ _ _ _ _ _ x_30 (1 : Int) at_ (by omega) (0 : Int) u1 false ((accW_n hp1).1)) ?_)
        clear hS; rintro _ _ w ⟨l_31, rfl, rfl, x_32⟩ hS
        replace hS : K.Sat w0 [l_31, m_11, g_2, fr] w := hS
        obtain ⟨_, hp2, hb2, hd2⟩ := accW_n (th := (1 : Int)) (old := (0 : Int)) (w := u1) hp1
        refine K.RW.qs [.bool false] (by kernel_rfl) ?_
        refine K.RW.nil ?_
        refine K.thn_normal ?_
        refine K.KW.seq ?_
        -- 9 :141
        refine K.KW.region ?_
        refine K.RW.qs [.pointer (some ⟨p_5, 0, none⟩), .int .i64 at_] (by kernel_rfl) ?_
        refine K.RW.l rfl (K.OW.gcall hS [0] [1, 2, 3] [.pointer (some ⟨p_5, 0, none⟩), .int .i64 at_] (mPeekN_ok _ _ _ _ _ _ _ x_32 at_ (by omega) (hp2)) ?_)
        clear hS; rintro _ _ w ⟨rfl, rfl⟩ hS
        replace hS : K.Sat w0 [l_31, m_11, g_2, fr] w := hS
        refine K.RW.qs [.tuple #[.int .u64 0, .bool false], .int .u64 0, .bool false, .int .u64 0, .bool false] (by kernel_rfl) ?_
        refine K.RW.nil ?_
        refine K.thn_normal ?_
        refine K.KW.seq ?_
        refine K.KW.seq ?_
        -- 10 :142
        refine K.KW.region ?_
        refine K.RW.qs [.bool false, .bool true] (by kernel_rfl) ?_
        refine K.RW.nil ?_
        refine K.thn_normal ?_
        refine K.KW.ifT rfl ?_
        refine K.KW.seq ?_
        -- 11 :143
        have hsl : (((((MemM.of (DevM.fresh xs n_9 3) 3).accW n_9 (0 : Int) at_ (0 : Int) u0).1).accW n_9 (1 : Int) at_ (0 : Int) u1).1).dev.seen.length = n_9 * 8 := (congrArg (fun D : DevM => D.seen.length) (hd2.trans hd1)).trans hok0.2.1
        refine K.KW.region ?_
        refine K.RW.l rfl (K.OW.gcall hS [] [0, 1, 2, 3] [] (awake07_ok _) ?_)
        clear hS; rintro _ _ w ⟨rfl, rfl⟩ hS
        replace hS : K.Sat w0 [l_31, m_11, g_2, fr] w := hS
        refine K.RW.qs [.bool true, .bool false, .bool true, .bool true, .bool true, .bool false, .bool true, .bool true, .bool true, .pointer (some ⟨p_5, 0, none⟩)] (by kernel_rfl) ?_
        refine K.RW.l (by kernel_rfl) (K.OW.gcall hS [0] [1, 2, 3] [.pointer (some ⟨p_5, 0, none⟩)] (mBad_ok _ _ _ _ _ _ _ x_32 ) ?_)
        clear hS; rintro _ _ w ⟨rfl, rfl⟩ hS
        replace hS : K.Sat w0 [l_31, m_11, g_2, fr] w := hS
        refine K.RW.q rfl (by kernel_rfl) (K.QR.nice (v := .bool (((((((MemM.of (DevM.fresh xs n_9 3) 3).accW n_9 (0 : Int) at_ (0 : Int) u0).1).accW n_9 (1 : Int) at_ (0 : Int) u1).1).bad : Int) == (2 : Int))) (by kernel_rfl) (congrArg Value.bool (beq_iff_eq.2 (hb2.trans ((congrArg i64s hb1).trans rfl))))) ?_
        refine K.RW.qs [.bool true, .bool true, .pointer (some ⟨p_5, 0, none⟩)] (by kernel_rfl) ?_
        refine K.RW.l (by kernel_rfl) (K.OW.gcall hS [0] [1, 2, 3] [.pointer (some ⟨p_5, 0, none⟩)] (mDevice_ok _ _ _ _ _ _ _ x_32 ) ?_)
        clear hS; rintro _ _ w ⟨rfl, rfl⟩ hS
        replace hS : K.Sat w0 [l_31, m_11, g_2, fr] w := hS
        refine K.RW.l (by kernel_rfl) (K.OW.gcall hS [0] [1, 2, 3] [.pointer (some ⟨q_7, 0, none⟩)] (mdSeen_ok _ _ _ _ _ _ _ x_32) ?_)
        clear hS; rintro _ _ w ⟨r_33, cc_34, l_35, rfl, rfl, o_36⟩ hS
        replace hS : K.Sat w0 [l_31, l_35, m_11, g_2, fr] w := hS
        refine K.RW.qs [.slice a xs.length cap] (by kernel_rfl) ?_
        refine K.RW.l (by kernel_rfl) (K.OW.kcall hS [.slice r_33 ((((((MemM.of (DevM.fresh xs n_9 3) 3).accW n_9 (0 : Int) at_ (0 : Int) u0).1).accW n_9 (1 : Int) at_ (0 : Int) u1).1).dev.seen.length) cc_34, .slice a xs.length cap] (sameN_ok _ _ _ _ _ _ ((((((MemM.of (DevM.fresh xs n_9 3) 3).accW n_9 (0 : Int) at_ (0 : Int) u0).1).accW n_9 (1 : Int) at_ (0 : Int) u1).1).dev.seen) xs _ (by omega) rfl rfl (K.Own.rowE 0 (hS.ownr 1 rfl o_36) rfl (fun _ => rfl)) (hx.no hS.chg)) ?_)
        rintro _ w ⟨rfl, c_37⟩
        replace hS := hS.no c_37
        have hb_38 : sameB ((((((MemM.of (DevM.fresh xs n_9 3) 3).accW n_9 (0 : Int) at_ (0 : Int) u0).1).accW n_9 (1 : Int) at_ (0 : Int) u1).1).dev.seen) xs = true := decide_eq_true (by have e := hd2.trans hd1; exact congrArg DevM.seen e)
        rw [hb_38]
        refine K.RW.qs [.bool true, .bool true] (by kernel_rfl) ?_
        refine K.RW.nil ?_
        refine K.thn_normal ?_
        refine K.KW.ret ?_
        refine K.thn_ret ?_
        refine ⟨.inr rfl, rfl, (.bool true), K.res1 rfl rfl, [], ?_, hS.pick [4]⟩
        exact rfl
    ·
      replace hS : K.Sat w0 [g_2, fr] w := hS
      refine K.RW.qs [.tuple #[.pointer none, .pointer none, .bool false], .pointer none, .pointer none, .bool false, .pointer none, .pointer none, .bool false] (by kernel_rfl) ?_
      refine K.RW.nil ?_
      refine K.thn_normal ?_
      refine K.KW.seq ?_
      refine K.KW.seq ?_
      -- 4 :135
      refine K.KW.region ?_
      refine K.RW.qs [.bool false, .bool true] (by kernel_rfl) ?_
      refine K.RW.nil ?_
      refine K.thn_normal ?_
      refine K.KW.ifT rfl ?_
      refine K.KW.seq ?_
      -- 5 :136
      refine K.KW.region ?_
      refine K.RW.l rfl (K.OW.gcall hS [] [0, 1] [] (awake07_ok _) ?_)
      clear hS; rintro _ _ w ⟨rfl, rfl⟩ hS
      replace hS : K.Sat w0 [g_2, fr] w := hS
      refine K.RW.qs [.bool true] (by kernel_rfl) ?_
      refine K.RW.nil ?_
      refine K.thn_normal ?_
      refine K.KW.ret ?_
      refine K.thn_ret ?_
      refine ⟨.inr rfl, rfl, (.bool true), K.res1 rfl rfl, [], ?_, hS.pick [1]⟩
      exact rfl

end Go.Proofs.Ytgeihjiichdpbaa
