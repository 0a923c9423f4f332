import Derived.Test.YtnehocjmgnhhhaaDoorFsr
import Derived.Test.YtnehocjmgnhhhaaDoorFrp5
/- Reports: the document's lines. -/
namespace Go.Proofs.YtnehocjmgnhhhaaDoor
open Go.RowKit
set_option linter.unusedVariables false
attribute [local irreducible] K.KW K.RW K.DW K.OW K.QR K.KC
set_option maxHeartbeats 4000000 in
set_option maxRecDepth 100000 in
theorem rmay_ok (w0 : World) (c : CallM) :
    K.GC Tryd.prog w0 13 #[.agg #[.int .i64 c.th, .int .i64 c.ok, .int .u32 c.key, .int .u32 c.val, .int .i64 c.rk, .int .u32 c.rv, .int .i64 c.beg, .int .i64 c.en, .int .i64 c.wh, .bool c.cr, .bool c.kp]] [] (fun v post => post = [] ∧ ((c.may ∧ v = .bool true) ∨ (¬ (c.may) ∧ v = .bool false))) := by
  refine K.GC.mk (n := 69) Tryd.func13 rfl rfl [.agg #[.int .i64 c.th, .int .i64 c.ok, .int .u32 c.key, .int .u32 c.val, .int .i64 c.rk, .int .u32 c.rv, .int .i64 c.beg, .int .i64 c.en, .int .i64 c.wh, .bool c.cr, .bool c.kp]] rfl rfl ?_
  intro fr w hS
  replace hS : K.Sat w0 [fr] w := hS
  refine K.KW.seq ?_
  -- 0 :25
  refine K.KW.region ?_
  refine K.RW.l rfl (K.OW.gnew 29 [.int .i64 c.th, .int .i64 c.ok, .int .u32 c.key, .int .u32 c.val, .int .i64 c.rk, .int .u32 c.rv, .int .i64 c.beg, .int .i64 c.en, .int .i64 c.wh, .bool c.cr, .bool c.kp] hS ?_)
  clear hS; intro w r_1 g_2 hg_3 hS
  refine K.RW.qs [.bool false] (by kernel_rfl) ?_
  refine K.RW.nil ?_
  refine K.thn_normal ?_
  refine K.KW.seq ?_
  -- 1 :26
  refine K.KW.region ?_
  refine K.RW.qs [.pointer (some ⟨r_1, 6, none⟩)] (by kernel_rfl) ?_
  refine K.RW.q rfl rfl (K.QR.ld1 (v := .int .i64 c.beg) rfl rfl (by kernel_rfl) ((hS.blk 0 rfl hg_3).cell rfl)) ?_
  refine K.RW.qs [.pointer (some ⟨r_1, 8, none⟩)] (by kernel_rfl) ?_
  refine K.RW.q rfl rfl (K.QR.ld1 (v := .int .i64 c.wh) rfl rfl (by kernel_rfl) ((hS.blk 0 rfl hg_3).cell rfl)) ?_
  refine K.RW.qs [.pointer (some ⟨r_1, 7, none⟩)] (by kernel_rfl) ?_
  refine K.RW.q rfl rfl (K.QR.ld1 (v := .int .i64 c.en) rfl rfl (by kernel_rfl) ((hS.blk 0 rfl hg_3).cell rfl)) ?_
  refine K.RW.l rfl (K.OW.gbs [(0, .int .i64 c.beg), (1, .int .i64 c.wh), (2, .int .i64 c.en)] [.int .i64 c.beg, .int .i64 c.wh, .int .i64 c.en] hS (fun w => K.bs_run (P := Tryd.prog) w 78 3 3 _ _ Tryd.underlying78 (by kernel_rfl)) ?_)
  clear hS; intro w r_4 g_5 hg_6 hS
  refine K.RW.qs [.slice (some ⟨r_4, 0, none⟩) 3 3] (by kernel_rfl) ?_
  refine K.RW.nil ?_
  refine K.thn_normal ?_
  refine K.KW.seq ?_
  refine K.KW.seq ?_
  -- 2 :27
  refine K.KW.region ?_
  refine K.RW.qs [.int .i64 0] (by kernel_rfl) ?_
  refine K.RW.nil ?_
  refine K.thn_normal ?_
  refine K.KW.block ?_
  refine K.KW.unr 3 ?_
  refine K.Unr.succ ?_
  refine K.KW.seq ?_
  refine K.KW.seq ?_
  -- 3 :27
  refine K.KW.region ?_
  refine K.RW.qs [.int .i64 0, .bool true] (by kernel_rfl) ?_
  refine K.RW.nil ?_
  refine K.thn_normal ?_
  refine K.KW.ifT rfl ?_
  refine K.KW.skip ?_
  refine K.thn_normal ?_
  refine K.KW.seq ?_
  refine K.KW.block ?_
  refine K.KW.seq ?_
  -- 5 :28
  refine K.KW.region ?_
  refine K.RW.qs [.slice (some ⟨r_4, 0, none⟩) 3 3, .int .i64 0] (by kernel_rfl) ?_
  refine K.RW.q rfl rfl (K.QR.ix 0 1 rfl rfl rfl Tryd.underlying78 (by kernel_rfl) (by omega) (by first | (simp; done) | omega | (simp; omega))) ?_
  refine K.RW.q rfl rfl (K.QR.ld1 (v := .int .i64 c.beg) rfl rfl (by kernel_rfl) ((hS.blk 0 rfl hg_6).cell rfl)) ?_
  by_cases h_7 : (c.beg : Int) < ((-1) : Int)
  ·  -- yes
    refine K.RW.q rfl rfl (K.QR.nice (v := .bool (decide ((c.beg : Int) < ((-1) : Int)))) (by kernel_rfl) (congrArg Value.bool (decide_eq_true h_7))) ?_
    refine K.RW.qs [.bool true] (by kernel_rfl) ?_
    refine K.RW.skip rfl (by kernel_rfl) ?_
    refine K.RW.skip rfl (by kernel_rfl) ?_
    refine K.RW.skip rfl (by kernel_rfl) ?_
    refine K.RW.skip rfl (by kernel_rfl) ?_
    refine K.RW.skip rfl (by kernel_rfl) ?_
    refine K.RW.qs [.bool true] (by kernel_rfl) ?_
    refine K.RW.nil ?_
    refine K.thn_normal ?_
    refine K.KW.ifT rfl ?_
    refine K.KW.seq ?_
    -- 6 :29
    refine K.KW.region ?_
    refine K.RW.qs [.bool false] (by kernel_rfl) ?_
    refine K.RW.nil ?_
    refine K.thn_normal ?_
    refine K.KW.ret ?_
    refine K.blk_ret ?_
    refine K.thn_ret ?_
    refine K.thn_ret ?_
    refine K.blk_ret ?_
    refine K.thn_ret ?_
    refine ⟨.inr rfl, rfl, (.bool false), K.res1 rfl rfl, [], ?_, hS.pick [2]⟩
    exact ⟨rfl, .inr ⟨fun hh => by first | (have h9 := hh.1; unfold CallM.nums at h9; omega) | (have h9 := hh.2; simp_all), rfl⟩⟩
  ·  -- no
    refine K.RW.q rfl rfl (K.QR.nice (v := .bool (decide ((c.beg : Int) < ((-1) : Int)))) (by kernel_rfl) (congrArg Value.bool (decide_eq_false h_7))) ?_
    refine K.RW.qs [.bool false, .slice (some ⟨r_4, 0, none⟩) 3 3, .int .i64 0] (by kernel_rfl) ?_
    refine K.RW.q rfl (by kernel_rfl) (K.QR.ix 0 1 rfl rfl rfl Tryd.underlying78 (by kernel_rfl) (by omega) (by first | (simp; done) | omega | (simp; omega))) ?_
    refine K.RW.q rfl (by kernel_rfl) (K.QR.ld1 (v := .int .i64 c.beg) rfl rfl (by kernel_rfl) ((hS.blk 0 rfl hg_6).cell rfl)) ?_
    by_cases h_8 : (c.beg : Int) > (1099511627776 : Int)
    ·  -- yes
      refine K.RW.q rfl (by kernel_rfl) (K.QR.nice (v := .bool (decide ((c.beg : Int) > (1099511627776 : Int)))) (by kernel_rfl) (congrArg Value.bool (decide_eq_true h_8))) ?_
      refine K.RW.qs [.bool true] (by kernel_rfl) ?_
      refine K.RW.nil ?_
      refine K.thn_normal ?_
      refine K.KW.ifT rfl ?_
      refine K.KW.seq ?_
      -- 6 :29
      refine K.KW.region ?_
      refine K.RW.qs [.bool false] (by kernel_rfl) ?_
      refine K.RW.nil ?_
      refine K.thn_normal ?_
      refine K.KW.ret ?_
      refine K.blk_ret ?_
      refine K.thn_ret ?_
      refine K.thn_ret ?_
      refine K.blk_ret ?_
      refine K.thn_ret ?_
      refine ⟨.inr rfl, rfl, (.bool false), K.res1 rfl rfl, [], ?_, hS.pick [2]⟩
      exact ⟨rfl, .inr ⟨fun hh => by first | (have h9 := hh.1; unfold CallM.nums at h9; omega) | (have h9 := hh.2; simp_all), rfl⟩⟩
    ·  -- no
      refine K.RW.q rfl (by kernel_rfl) (K.QR.nice (v := .bool (decide ((c.beg : Int) > (1099511627776 : Int)))) (by kernel_rfl) (congrArg Value.bool (decide_eq_false h_8))) ?_
      refine K.RW.qs [.bool false] (by kernel_rfl) ?_
      refine K.RW.nil ?_
      refine K.thn_normal ?_
      refine K.KW.ifF rfl ?_
      refine K.KW.skip ?_
      refine K.blk_normal ?_
      refine K.thn_normal ?_
      -- 4 :27
      refine K.KW.region ?_
      refine K.RW.qs [.int .i64 0, .int .i64 1, .int .i64 1] (by kernel_rfl) ?_
      refine K.RW.nil ?_
      refine K.thn_normal ?_
      refine K.Unr.succ ?_
      refine K.KW.seq ?_
      refine K.KW.seq ?_
      -- 3 :27
      refine K.KW.region ?_
      refine K.RW.qs [.int .i64 1, .bool true] (by kernel_rfl) ?_
      refine K.RW.nil ?_
      refine K.thn_normal ?_
      refine K.KW.ifT rfl ?_
      refine K.KW.skip ?_
      refine K.thn_normal ?_
      refine K.KW.seq ?_
      refine K.KW.block ?_
      refine K.KW.seq ?_
      -- 5 :28
      refine K.KW.region ?_
      refine K.RW.qs [.slice (some ⟨r_4, 0, none⟩) 3 3, .int .i64 1] (by kernel_rfl) ?_
      refine K.RW.q rfl rfl (K.QR.ix 1 1 rfl rfl rfl Tryd.underlying78 (by kernel_rfl) (by omega) (by first | (simp; done) | omega | (simp; omega))) ?_
      refine K.RW.q rfl rfl (K.QR.ld1 (v := .int .i64 c.wh) rfl rfl (by kernel_rfl) ((hS.blk 0 rfl hg_6).cell rfl)) ?_
      by_cases h_9 : (c.wh : Int) < ((-1) : Int)
      ·  -- yes
        refine K.RW.q rfl rfl (K.QR.nice (v := .bool (decide ((c.wh : Int) < ((-1) : Int)))) (by kernel_rfl) (congrArg Value.bool (decide_eq_true h_9))) ?_
        refine K.RW.qs [.bool true] (by kernel_rfl) ?_
        refine K.RW.skip rfl (by kernel_rfl) ?_
        refine K.RW.skip rfl (by kernel_rfl) ?_
        refine K.RW.skip rfl (by kernel_rfl) ?_
        refine K.RW.skip rfl (by kernel_rfl) ?_
        refine K.RW.skip rfl (by kernel_rfl) ?_
        refine K.RW.qs [.bool true] (by kernel_rfl) ?_
        refine K.RW.nil ?_
        refine K.thn_normal ?_
        refine K.KW.ifT rfl ?_
        refine K.KW.seq ?_
        -- 6 :29
        refine K.KW.region ?_
        refine K.RW.qs [.bool false] (by kernel_rfl) ?_
        refine K.RW.nil ?_
        refine K.thn_normal ?_
        refine K.KW.ret ?_
        refine K.blk_ret ?_
        refine K.thn_ret ?_
        refine K.thn_ret ?_
        refine K.blk_ret ?_
        refine K.thn_ret ?_
        refine ⟨.inr rfl, rfl, (.bool false), K.res1 rfl rfl, [], ?_, hS.pick [2]⟩
        exact ⟨rfl, .inr ⟨fun hh => by first | (have h9 := hh.1; unfold CallM.nums at h9; omega) | (have h9 := hh.2; simp_all), rfl⟩⟩
      ·  -- no
        refine K.RW.q rfl rfl (K.QR.nice (v := .bool (decide ((c.wh : Int) < ((-1) : Int)))) (by kernel_rfl) (congrArg Value.bool (decide_eq_false h_9))) ?_
        refine K.RW.qs [.bool false, .slice (some ⟨r_4, 0, none⟩) 3 3, .int .i64 1] (by kernel_rfl) ?_
        refine K.RW.q rfl (by kernel_rfl) (K.QR.ix 1 1 rfl rfl rfl Tryd.underlying78 (by kernel_rfl) (by omega) (by first | (simp; done) | omega | (simp; omega))) ?_
        refine K.RW.q rfl (by kernel_rfl) (K.QR.ld1 (v := .int .i64 c.wh) rfl rfl (by kernel_rfl) ((hS.blk 0 rfl hg_6).cell rfl)) ?_
        by_cases h_10 : (c.wh : Int) > (1099511627776 : Int)
        ·  -- yes
          refine K.RW.q rfl (by kernel_rfl) (K.QR.nice (v := .bool (decide ((c.wh : Int) > (1099511627776 : Int)))) (by kernel_rfl) (congrArg Value.bool (decide_eq_true h_10))) ?_
          refine K.RW.qs [.bool true] (by kernel_rfl) ?_
          refine K.RW.nil ?_
          refine K.thn_normal ?_
          refine K.KW.ifT rfl ?_
          refine K.KW.seq ?_
          -- 6 :29
          refine K.KW.region ?_
          refine K.RW.qs [.bool false] (by kernel_rfl) ?_
          refine K.RW.nil ?_
          refine K.thn_normal ?_
          refine K.KW.ret ?_
          refine K.blk_ret ?_
          refine K.thn_ret ?_
          refine K.thn_ret ?_
          refine K.blk_ret ?_
          refine K.thn_ret ?_
          refine ⟨.inr rfl, rfl, (.bool false), K.res1 rfl rfl, [], ?_, hS.pick [2]⟩
          exact ⟨rfl, .inr ⟨fun hh => by first | (have h9 := hh.1; unfold CallM.nums at h9; omega) | (have h9 := hh.2; simp_all), rfl⟩⟩
        ·  -- no
          refine K.RW.q rfl (by kernel_rfl) (K.QR.nice (v := .bool (decide ((c.wh : Int) > (1099511627776 : Int)))) (by kernel_rfl) (congrArg Value.bool (decide_eq_false h_10))) ?_
          refine K.RW.qs [.bool false] (by kernel_rfl) ?_
          refine K.RW.nil ?_
          refine K.thn_normal ?_
          refine K.KW.ifF rfl ?_
          refine K.KW.skip ?_
          refine K.blk_normal ?_
          refine K.thn_normal ?_
          -- 4 :27
          refine K.KW.region ?_
          refine K.RW.qs [.int .i64 1, .int .i64 2, .int .i64 2] (by kernel_rfl) ?_
          refine K.RW.nil ?_
          refine K.thn_normal ?_
          refine K.Unr.succ ?_
          refine K.KW.seq ?_
          refine K.KW.seq ?_
          -- 3 :27
          refine K.KW.region ?_
          refine K.RW.qs [.int .i64 2, .bool true] (by kernel_rfl) ?_
          refine K.RW.nil ?_
          refine K.thn_normal ?_
          refine K.KW.ifT rfl ?_
          refine K.KW.skip ?_
          refine K.thn_normal ?_
          refine K.KW.seq ?_
          refine K.KW.block ?_
          refine K.KW.seq ?_
          -- 5 :28
          refine K.KW.region ?_
          refine K.RW.qs [.slice (some ⟨r_4, 0, none⟩) 3 3, .int .i64 2] (by kernel_rfl) ?_
          refine K.RW.q rfl rfl (K.QR.ix 2 1 rfl rfl rfl Tryd.underlying78 (by kernel_rfl) (by omega) (by first | (simp; done) | omega | (simp; omega))) ?_
          refine K.RW.q rfl rfl (K.QR.ld1 (v := .int .i64 c.en) rfl rfl (by kernel_rfl) ((hS.blk 0 rfl hg_6).cell rfl)) ?_
          by_cases h_11 : (c.en : Int) < ((-1) : Int)
          ·  -- yes
            refine K.RW.q rfl rfl (K.QR.nice (v := .bool (decide ((c.en : Int) < ((-1) : Int)))) (by kernel_rfl) (congrArg Value.bool (decide_eq_true h_11))) ?_
            refine K.RW.qs [.bool true] (by kernel_rfl) ?_
            refine K.RW.skip rfl (by kernel_rfl) ?_
            refine K.RW.skip rfl (by kernel_rfl) ?_
            refine K.RW.skip rfl (by kernel_rfl) ?_
            refine K.RW.skip rfl (by kernel_rfl) ?_
            refine K.RW.skip rfl (by kernel_rfl) ?_
            refine K.RW.qs [.bool true] (by kernel_rfl) ?_
            refine K.RW.nil ?_
            refine K.thn_normal ?_
            refine K.KW.ifT rfl ?_
            refine K.KW.seq ?_
            -- 6 :29
            refine K.KW.region ?_
            refine K.RW.qs [.bool false] (by kernel_rfl) ?_
            refine K.RW.nil ?_
            refine K.thn_normal ?_
            refine K.KW.ret ?_
            refine K.blk_ret ?_
            refine K.thn_ret ?_
            refine K.thn_ret ?_
            refine K.blk_ret ?_
            refine K.thn_ret ?_
            refine ⟨.inr rfl, rfl, (.bool false), K.res1 rfl rfl, [], ?_, hS.pick [2]⟩
            exact ⟨rfl, .inr ⟨fun hh => by first | (have h9 := hh.1; unfold CallM.nums at h9; omega) | (have h9 := hh.2; simp_all), rfl⟩⟩
          ·  -- no
            refine K.RW.q rfl rfl (K.QR.nice (v := .bool (decide ((c.en : Int) < ((-1) : Int)))) (by kernel_rfl) (congrArg Value.bool (decide_eq_false h_11))) ?_
            refine K.RW.qs [.bool false, .slice (some ⟨r_4, 0, none⟩) 3 3, .int .i64 2] (by kernel_rfl) ?_
            refine K.RW.q rfl (by kernel_rfl) (K.QR.ix 2 1 rfl rfl rfl Tryd.underlying78 (by kernel_rfl) (by omega) (by first | (simp; done) | omega | (simp; omega))) ?_
            refine K.RW.q rfl (by kernel_rfl) (K.QR.ld1 (v := .int .i64 c.en) rfl rfl (by kernel_rfl) ((hS.blk 0 rfl hg_6).cell rfl)) ?_
            by_cases h_12 : (c.en : Int) > (1099511627776 : Int)
            ·  -- yes
              refine K.RW.q rfl (by kernel_rfl) (K.QR.nice (v := .bool (decide ((c.en : Int) > (1099511627776 : Int)))) (by kernel_rfl) (congrArg Value.bool (decide_eq_true h_12))) ?_
              refine K.RW.qs [.bool true] (by kernel_rfl) ?_
              refine K.RW.nil ?_
              refine K.thn_normal ?_
              refine K.KW.ifT rfl ?_
              refine K.KW.seq ?_
              -- 6 :29
              refine K.KW.region ?_
              refine K.RW.qs [.bool false] (by kernel_rfl) ?_
              refine K.RW.nil ?_
              refine K.thn_normal ?_
              refine K.KW.ret ?_
              refine K.blk_ret ?_
              refine K.thn_ret ?_
              refine K.thn_ret ?_
              refine K.blk_ret ?_
              refine K.thn_ret ?_
              refine ⟨.inr rfl, rfl, (.bool false), K.res1 rfl rfl, [], ?_, hS.pick [2]⟩
              exact ⟨rfl, .inr ⟨fun hh => by first | (have h9 := hh.1; unfold CallM.nums at h9; omega) | (have h9 := hh.2; simp_all), rfl⟩⟩
            ·  -- no
              refine K.RW.q rfl (by kernel_rfl) (K.QR.nice (v := .bool (decide ((c.en : Int) > (1099511627776 : Int)))) (by kernel_rfl) (congrArg Value.bool (decide_eq_false h_12))) ?_
              refine K.RW.qs [.bool false] (by kernel_rfl) ?_
              refine K.RW.nil ?_
              refine K.thn_normal ?_
              refine K.KW.ifF rfl ?_
              refine K.KW.skip ?_
              refine K.blk_normal ?_
              refine K.thn_normal ?_
              -- 4 :27
              refine K.KW.region ?_
              refine K.RW.qs [.int .i64 2, .int .i64 3, .int .i64 3] (by kernel_rfl) ?_
              refine K.RW.nil ?_
              refine K.thn_normal ?_
              refine K.Unr.zero ?_
              refine K.KW.seq ?_
              refine K.KW.seq ?_
              -- 3 :27
              refine K.KW.region ?_
              refine K.RW.qs [.int .i64 3, .bool false] (by kernel_rfl) ?_
              refine K.RW.nil ?_
              refine K.thn_normal ?_
              refine K.KW.ifF rfl ?_
              refine K.KW.exit ?_
              refine K.thn_exit ?_
              refine K.thn_exit ?_
              refine K.blk_hit ?_
              refine K.thn_normal ?_
              refine K.KW.seq ?_
              -- 7 :32
              refine K.KW.region ?_
              refine K.RW.qs [.pointer (some ⟨r_1, 1, none⟩), .pointer (some ⟨r_1, 1, none⟩)] (by kernel_rfl) ?_
              refine K.RW.q rfl rfl (K.QR.ld1 (v := .int .i64 c.ok) rfl rfl (by kernel_rfl) ((hS.blk 1 rfl hg_3).cell rfl)) ?_
              by_cases h_13 : (c.ok : Int) ≥ (1 : Int)
              ·  -- yes
                refine K.RW.q rfl rfl (K.QR.nice (v := .bool (decide ((c.ok : Int) ≥ (1 : Int)))) (by kernel_rfl) (congrArg Value.bool (decide_eq_true h_13))) ?_
                refine K.RW.qs [.bool true, .pointer (some ⟨r_1, 1, none⟩), .pointer (some ⟨r_1, 1, none⟩)] (by kernel_rfl) ?_
                refine K.RW.q rfl (by kernel_rfl) (K.QR.ld1 (v := .int .i64 c.ok) rfl rfl (by kernel_rfl) ((hS.blk 1 rfl hg_3).cell rfl)) ?_
                by_cases h_14 : (c.ok : Int) ≤ (8 : Int)
                ·  -- yes
                  refine K.RW.q rfl (by kernel_rfl) (K.QR.nice (v := .bool (decide ((c.ok : Int) ≤ (8 : Int)))) (by kernel_rfl) (congrArg Value.bool (decide_eq_true h_14))) ?_
                  refine K.RW.qs [.bool true, .bool true, .pointer (some ⟨r_1, 4, none⟩), .pointer (some ⟨r_1, 4, none⟩)] (by kernel_rfl) ?_
                  refine K.RW.q rfl (by kernel_rfl) (K.QR.ld1 (v := .int .i64 c.rk) rfl rfl (by kernel_rfl) ((hS.blk 1 rfl hg_3).cell rfl)) ?_
                  by_cases h_15 : (c.rk : Int) ≥ (0 : Int)
                  ·  -- yes
                    refine K.RW.q rfl (by kernel_rfl) (K.QR.nice (v := .bool (decide ((c.rk : Int) ≥ (0 : Int)))) (by kernel_rfl) (congrArg Value.bool (decide_eq_true h_15))) ?_
                    refine K.RW.qs [.bool true, .bool true, .pointer (some ⟨r_1, 4, none⟩), .pointer (some ⟨r_1, 4, none⟩)] (by kernel_rfl) ?_
                    refine K.RW.q rfl (by kernel_rfl) (K.QR.ld1 (v := .int .i64 c.rk) rfl rfl (by kernel_rfl) ((hS.blk 1 rfl hg_3).cell rfl)) ?_
                    by_cases h_16 : (c.rk : Int) ≤ (5 : Int)
                    ·  -- yes
                      refine K.RW.q rfl (by kernel_rfl) (K.QR.nice (v := .bool (decide ((c.rk : Int) ≤ (5 : Int)))) (by kernel_rfl) (congrArg Value.bool (decide_eq_true h_16))) ?_
                      refine K.RW.qs [.bool true, .bool true, .pointer (some ⟨r_1, 0, none⟩)] (by kernel_rfl) ?_
                      refine K.RW.q rfl (by kernel_rfl) (K.QR.ld1 (v := .int .i64 c.th) rfl rfl (by kernel_rfl) ((hS.blk 1 rfl hg_3).cell rfl)) ?_
                      by_cases h_17 : (c.th : Int) ≥ (0 : Int)
                      ·  -- yes
                        refine K.RW.q rfl (by kernel_rfl) (K.QR.nice (v := .bool (decide ((c.th : Int) ≥ (0 : Int)))) (by kernel_rfl) (congrArg Value.bool (decide_eq_true h_17))) ?_
                        refine K.RW.qs [.bool true, .bool true, .pointer (some ⟨r_1, 0, none⟩)] (by kernel_rfl) ?_
                        refine K.RW.q rfl (by kernel_rfl) (K.QR.ld1 (v := .int .i64 c.th) rfl rfl (by kernel_rfl) ((hS.blk 1 rfl hg_3).cell rfl)) ?_
                        by_cases h_18 : (c.th : Int) ≤ (63 : Int)
                        ·  -- yes
                          refine K.RW.q rfl (by kernel_rfl) (K.QR.nice (v := .bool (decide ((c.th : Int) ≤ (63 : Int)))) (by kernel_rfl) (congrArg Value.bool (decide_eq_true h_18))) ?_
                          refine K.RW.qs [.bool true, .bool true, .pointer (some ⟨r_1, 9, none⟩)] (by kernel_rfl) ?_
                          refine K.RW.q rfl (by kernel_rfl) (K.QR.ld1 (v := .bool c.cr) rfl rfl (by kernel_rfl) ((hS.blk 1 rfl hg_3).cell rfl)) ?_
                          cases hb_19 : c.cr
                          ·
                            refine K.RW.qs [.bool false, .pointer (some ⟨r_1, 10, none⟩)] (by kernel_rfl) ?_
                            refine K.RW.q rfl (by kernel_rfl) (K.QR.ld1 (v := .bool c.kp) rfl rfl (by kernel_rfl) ((hS.blk 1 rfl hg_3).cell rfl)) ?_
                            cases hb_20 : c.kp
                            ·
                              refine K.RW.qs [.bool true, .bool true, .bool true, .bool true] (by kernel_rfl) ?_
                              refine K.RW.nil ?_
                              refine K.thn_normal ?_
                              refine K.KW.ret ?_
                              refine ⟨.inr rfl, rfl, (.bool true), K.res1 rfl rfl, [], ?_, hS.pick [2]⟩
                              exact ⟨rfl, .inl ⟨⟨by unfold CallM.nums; omega, by first | exact .inl (by assumption) | exact .inr (by assumption)⟩, rfl⟩⟩
                            ·
                              refine K.RW.qs [.bool false, .bool false, .bool false, .bool false] (by kernel_rfl) ?_
                              refine K.RW.nil ?_
                              refine K.thn_normal ?_
                              refine K.KW.ret ?_
                              refine ⟨.inr rfl, rfl, (.bool false), K.res1 rfl rfl, [], ?_, hS.pick [2]⟩
                              exact ⟨rfl, .inr ⟨fun hh => by first | (have h9 := hh.1; unfold CallM.nums at h9; omega) | (have h9 := hh.2; simp_all), rfl⟩⟩
                          ·
                            refine K.RW.qs [.bool true] (by kernel_rfl) ?_
                            refine K.RW.skip rfl (by kernel_rfl) ?_
                            refine K.RW.skip rfl (by kernel_rfl) ?_
                            refine K.RW.skip rfl (by kernel_rfl) ?_
                            refine K.RW.qs [.bool true, .bool true, .bool true] (by kernel_rfl) ?_
                            refine K.RW.nil ?_
                            refine K.thn_normal ?_
                            refine K.KW.ret ?_
                            refine ⟨.inr rfl, rfl, (.bool true), K.res1 rfl rfl, [], ?_, hS.pick [2]⟩
                            exact ⟨rfl, .inl ⟨⟨by unfold CallM.nums; omega, by first | exact .inl (by assumption) | exact .inr (by assumption)⟩, rfl⟩⟩
                        ·  -- no
                          refine K.RW.q rfl (by kernel_rfl) (K.QR.nice (v := .bool (decide ((c.th : Int) ≤ (63 : Int)))) (by kernel_rfl) (congrArg Value.bool (decide_eq_false h_18))) ?_
                          refine K.RW.qs [.bool false, .bool false] (by kernel_rfl) ?_
                          refine K.RW.skip rfl (by kernel_rfl) ?_
                          refine K.RW.skip rfl (by kernel_rfl) ?_
                          refine K.RW.skip rfl (by kernel_rfl) ?_
                          refine K.RW.skip rfl (by kernel_rfl) ?_
                          refine K.RW.skip rfl (by kernel_rfl) ?_
                          refine K.RW.skip rfl (by kernel_rfl) ?_
                          refine K.RW.skip rfl (by kernel_rfl) ?_
                          refine K.RW.qs [.bool false, .bool false] (by kernel_rfl) ?_
                          refine K.RW.nil ?_
                          refine K.thn_normal ?_
                          refine K.KW.ret ?_
                          refine ⟨.inr rfl, rfl, (.bool false), K.res1 rfl rfl, [], ?_, hS.pick [2]⟩
                          exact ⟨rfl, .inr ⟨fun hh => by first | (have h9 := hh.1; unfold CallM.nums at h9; omega) | (have h9 := hh.2; simp_all), rfl⟩⟩
                      ·  -- no
                        refine K.RW.q rfl (by kernel_rfl) (K.QR.nice (v := .bool (decide ((c.th : Int) ≥ (0 : Int)))) (by kernel_rfl) (congrArg Value.bool (decide_eq_false h_17))) ?_
                        refine K.RW.qs [.bool false, .bool false] (by kernel_rfl) ?_
                        refine K.RW.skip rfl (by kernel_rfl) ?_
                        refine K.RW.skip rfl (by kernel_rfl) ?_
                        refine K.RW.skip rfl (by kernel_rfl) ?_
                        refine K.RW.qs [.bool false, .bool false] (by kernel_rfl) ?_
                        refine K.RW.skip rfl (by kernel_rfl) ?_
                        refine K.RW.skip rfl (by kernel_rfl) ?_
                        refine K.RW.skip rfl (by kernel_rfl) ?_
                        refine K.RW.skip rfl (by kernel_rfl) ?_
                        refine K.RW.skip rfl (by kernel_rfl) ?_
                        refine K.RW.skip rfl (by kernel_rfl) ?_
                        refine K.RW.skip rfl (by kernel_rfl) ?_
                        refine K.RW.qs [.bool false, .bool false] (by kernel_rfl) ?_
                        refine K.RW.nil ?_
                        refine K.thn_normal ?_
                        refine K.KW.ret ?_
                        refine ⟨.inr rfl, rfl, (.bool false), K.res1 rfl rfl, [], ?_, hS.pick [2]⟩
                        exact ⟨rfl, .inr ⟨fun hh => by first | (have h9 := hh.1; unfold CallM.nums at h9; omega) | (have h9 := hh.2; simp_all), rfl⟩⟩
                    ·  -- no
                      refine K.RW.q rfl (by kernel_rfl) (K.QR.nice (v := .bool (decide ((c.rk : Int) ≤ (5 : Int)))) (by kernel_rfl) (congrArg Value.bool (decide_eq_false h_16))) ?_
                      refine K.RW.qs [.bool false, .bool false] (by kernel_rfl) ?_
                      refine K.RW.skip rfl (by kernel_rfl) ?_
                      refine K.RW.skip rfl (by kernel_rfl) ?_
                      refine K.RW.skip rfl (by kernel_rfl) ?_
                      refine K.RW.qs [.bool false, .bool false] (by kernel_rfl) ?_
                      refine K.RW.skip rfl (by kernel_rfl) ?_
                      refine K.RW.skip rfl (by kernel_rfl) ?_
                      refine K.RW.skip rfl (by kernel_rfl) ?_
                      refine K.RW.qs [.bool false, .bool false] (by kernel_rfl) ?_
                      refine K.RW.skip rfl (by kernel_rfl) ?_
                      refine K.RW.skip rfl (by kernel_rfl) ?_
                      refine K.RW.skip rfl (by kernel_rfl) ?_
                      refine K.RW.skip rfl (by kernel_rfl) ?_
                      refine K.RW.skip rfl (by kernel_rfl) ?_
                      refine K.RW.skip rfl (by kernel_rfl) ?_
                      refine K.RW.skip rfl (by kernel_rfl) ?_
                      refine K.RW.qs [.bool false, .bool false] (by kernel_rfl) ?_
                      refine K.RW.nil ?_
                      refine K.thn_normal ?_
                      refine K.KW.ret ?_
                      refine ⟨.inr rfl, rfl, (.bool false), K.res1 rfl rfl, [], ?_, hS.pick [2]⟩
                      exact ⟨rfl, .inr ⟨fun hh => by first | (have h9 := hh.1; unfold CallM.nums at h9; omega) | (have h9 := hh.2; simp_all), rfl⟩⟩
                  ·  -- no
                    refine K.RW.q rfl (by kernel_rfl) (K.QR.nice (v := .bool (decide ((c.rk : Int) ≥ (0 : Int)))) (by kernel_rfl) (congrArg Value.bool (decide_eq_false h_15))) ?_
                    refine K.RW.qs [.bool false, .bool false] (by kernel_rfl) ?_
                    refine K.RW.skip rfl (by kernel_rfl) ?_
                    refine K.RW.skip rfl (by kernel_rfl) ?_
                    refine K.RW.skip rfl (by kernel_rfl) ?_
                    refine K.RW.skip rfl (by kernel_rfl) ?_
                    refine K.RW.qs [.bool false, .bool false] (by kernel_rfl) ?_
                    refine K.RW.skip rfl (by kernel_rfl) ?_
                    refine K.RW.skip rfl (by kernel_rfl) ?_
                    refine K.RW.skip rfl (by kernel_rfl) ?_
                    refine K.RW.qs [.bool false, .bool false] (by kernel_rfl) ?_
                    refine K.RW.skip rfl (by kernel_rfl) ?_
                    refine K.RW.skip rfl (by kernel_rfl) ?_
                    refine K.RW.skip rfl (by kernel_rfl) ?_
                    refine K.RW.qs [.bool false, .bool false] (by kernel_rfl) ?_
                    refine K.RW.skip rfl (by kernel_rfl) ?_
                    refine K.RW.skip rfl (by kernel_rfl) ?_
                    refine K.RW.skip rfl (by kernel_rfl) ?_
                    refine K.RW.skip rfl (by kernel_rfl) ?_
                    refine K.RW.skip rfl (by kernel_rfl) ?_
                    refine K.RW.skip rfl (by kernel_rfl) ?_
                    refine K.RW.skip rfl (by kernel_rfl) ?_
                    refine K.RW.qs [.bool false, .bool false] (by kernel_rfl) ?_
                    refine K.RW.nil ?_
                    refine K.thn_normal ?_
                    refine K.KW.ret ?_
                    refine ⟨.inr rfl, rfl, (.bool false), K.res1 rfl rfl, [], ?_, hS.pick [2]⟩
                    exact ⟨rfl, .inr ⟨fun hh => by first | (have h9 := hh.1; unfold CallM.nums at h9; omega) | (have h9 := hh.2; simp_all), rfl⟩⟩
                ·  -- no
                  refine K.RW.q rfl (by kernel_rfl) (K.QR.nice (v := .bool (decide ((c.ok : Int) ≤ (8 : Int)))) (by kernel_rfl) (congrArg Value.bool (decide_eq_false h_14))) ?_
                  refine K.RW.qs [.bool false, .bool false] (by kernel_rfl) ?_
                  refine K.RW.skip rfl (by kernel_rfl) ?_
                  refine K.RW.skip rfl (by kernel_rfl) ?_
                  refine K.RW.skip rfl (by kernel_rfl) ?_
                  refine K.RW.skip rfl (by kernel_rfl) ?_
                  refine K.RW.qs [.bool false, .bool false] (by kernel_rfl) ?_
                  refine K.RW.skip rfl (by kernel_rfl) ?_
                  refine K.RW.skip rfl (by kernel_rfl) ?_
                  refine K.RW.skip rfl (by kernel_rfl) ?_
                  refine K.RW.skip rfl (by kernel_rfl) ?_
                  refine K.RW.qs [.bool false, .bool false] (by kernel_rfl) ?_
                  refine K.RW.skip rfl (by kernel_rfl) ?_
                  refine K.RW.skip rfl (by kernel_rfl) ?_
                  refine K.RW.skip rfl (by kernel_rfl) ?_
                  refine K.RW.qs [.bool false, .bool false] (by kernel_rfl) ?_
                  refine K.RW.skip rfl (by kernel_rfl) ?_
                  refine K.RW.skip rfl (by kernel_rfl) ?_
                  refine K.RW.skip rfl (by kernel_rfl) ?_
                  refine K.RW.qs [.bool false, .bool false] (by kernel_rfl) ?_
                  refine K.RW.skip rfl (by kernel_rfl) ?_
                  refine K.RW.skip rfl (by kernel_rfl) ?_
                  refine K.RW.skip rfl (by kernel_rfl) ?_
                  refine K.RW.skip rfl (by kernel_rfl) ?_
                  refine K.RW.skip rfl (by kernel_rfl) ?_
                  refine K.RW.skip rfl (by kernel_rfl) ?_
                  refine K.RW.skip rfl (by kernel_rfl) ?_
                  refine K.RW.qs [.bool false, .bool false] (by kernel_rfl) ?_
                  refine K.RW.nil ?_
                  refine K.thn_normal ?_
                  refine K.KW.ret ?_
                  refine ⟨.inr rfl, rfl, (.bool false), K.res1 rfl rfl, [], ?_, hS.pick [2]⟩
                  exact ⟨rfl, .inr ⟨fun hh => by first | (have h9 := hh.1; unfold CallM.nums at h9; omega) | (have h9 := hh.2; simp_all), rfl⟩⟩
              ·  -- no
                refine K.RW.q rfl rfl (K.QR.nice (v := .bool (decide ((c.ok : Int) ≥ (1 : Int)))) (by kernel_rfl) (congrArg Value.bool (decide_eq_false h_13))) ?_
                refine K.RW.qs [.bool false] (by kernel_rfl) ?_
                refine K.RW.skip rfl (by kernel_rfl) ?_
                refine K.RW.skip rfl (by kernel_rfl) ?_
                refine K.RW.skip rfl (by kernel_rfl) ?_
                refine K.RW.skip rfl (by kernel_rfl) ?_
                refine K.RW.qs [.bool false, .bool false] (by kernel_rfl) ?_
                refine K.RW.skip rfl (by kernel_rfl) ?_
                refine K.RW.skip rfl (by kernel_rfl) ?_
                refine K.RW.skip rfl (by kernel_rfl) ?_
                refine K.RW.skip rfl (by kernel_rfl) ?_
                refine K.RW.qs [.bool false, .bool false] (by kernel_rfl) ?_
                refine K.RW.skip rfl (by kernel_rfl) ?_
                refine K.RW.skip rfl (by kernel_rfl) ?_
                refine K.RW.skip rfl (by kernel_rfl) ?_
                refine K.RW.skip rfl (by kernel_rfl) ?_
                refine K.RW.qs [.bool false, .bool false] (by kernel_rfl) ?_
                refine K.RW.skip rfl (by kernel_rfl) ?_
                refine K.RW.skip rfl (by kernel_rfl) ?_
                refine K.RW.skip rfl (by kernel_rfl) ?_
                refine K.RW.qs [.bool false, .bool false] (by kernel_rfl) ?_
                refine K.RW.skip rfl (by kernel_rfl) ?_
                refine K.RW.skip rfl (by kernel_rfl) ?_
                refine K.RW.skip rfl (by kernel_rfl) ?_
                refine K.RW.qs [.bool false, .bool false] (by kernel_rfl) ?_
                refine K.RW.skip rfl (by kernel_rfl) ?_
                refine K.RW.skip rfl (by kernel_rfl) ?_
                refine K.RW.skip rfl (by kernel_rfl) ?_
                refine K.RW.skip rfl (by kernel_rfl) ?_
                refine K.RW.skip rfl (by kernel_rfl) ?_
                refine K.RW.skip rfl (by kernel_rfl) ?_
                refine K.RW.skip rfl (by kernel_rfl) ?_
                refine K.RW.qs [.bool false, .bool false] (by kernel_rfl) ?_
                refine K.RW.nil ?_
                refine K.thn_normal ?_
                refine K.KW.ret ?_
                refine ⟨.inr rfl, rfl, (.bool false), K.res1 rfl rfl, [], ?_, hS.pick [2]⟩
                exact ⟨rfl, .inr ⟨fun hh => by first | (have h9 := hh.1; unfold CallM.nums at h9; omega) | (have h9 := hh.2; simp_all), rfl⟩⟩
theorem lineR_is {c : CallM} (hm : c.may) (hf : c.fits) : lineR c = dg c.th.toNat ++ 32 :: (opNm.getD c.ok.toNat [] ++ 32 :: (dg c.key.toNat ++ 32 :: (dg c.val.toNat ++ 32 :: (resNm.getD c.rk.toNat [] ++ 32 :: (dg c.rv.toNat ++ 32 :: (dgR c.beg ++ 32 :: (dgR c.wh ++ 32 :: (dgR c.en ++ 32 :: endR c)))))))) := by
  have hn := hm.1
  unfold CallM.nums at hn
  unfold CallM.fits at hf
  rw [← dgR_nat (n := c.th) (by omega), ← dgR_nat (n := c.key) (by omega), ← dgR_nat (n := c.val) (by omega), ← dgR_nat (n := c.rv) (by omega)]
  rfl
theorem dgT_len {n : Int} (h0 : 0 ≤ n) (h : n ≤ 9223372036854775807) : (dg n.toNat).length ≤ 20 := dg_len20 (by omega)
set_option maxHeartbeats 4000000 in
set_option maxRecDepth 100000 in
theorem rline_ok (w0 : World) (c : CallM) (hf : c.fits) (hmay : c.may) :
    K.GC Tryd.prog w0 14 #[.agg #[.int .i64 c.th, .int .i64 c.ok, .int .u32 c.key, .int .u32 c.val, .int .i64 c.rk, .int .u32 c.rv, .int .i64 c.beg, .int .i64 c.en, .int .i64 c.wh, .bool c.cr, .bool c.kp]] [] (fun v post => post = [] ∧ v = .string (K.sb (lineR c))) := by
  have hn := hmay.1
  unfold CallM.nums at hn
  have hff := hf
  unfold CallM.fits isI64 at hff
  have q1 := dgT_len (n := c.th) (by omega) (by omega)
  have q2 := opNm_len c.ok.toNat
  have q3 := dgT_len (n := c.key) (by omega) (by omega)
  have q4 := dgT_len (n := c.val) (by omega) (by omega)
  have q5 := resNm_len c.rk.toNat
  have q6 := dgT_len (n := c.rv) (by omega) (by omega)
  have q7 := dgR_len (n := c.beg) (by omega) (by omega)
  have q8 := dgR_len (n := c.wh) (by omega) (by omega)
  have q9 := dgR_len (n := c.en) (by omega) (by omega)
  refine K.GC.mk (n := 65) Tryd.func14 rfl rfl [.agg #[.int .i64 c.th, .int .i64 c.ok, .int .u32 c.key, .int .u32 c.val, .int .i64 c.rk, .int .u32 c.rv, .int .i64 c.beg, .int .i64 c.en, .int .i64 c.wh, .bool c.cr, .bool c.kp]] rfl rfl ?_
  intro fr w hS
  replace hS : K.Sat w0 [fr] w := hS
  refine K.KW.seq ?_
  -- 0 :36
  refine K.KW.region ?_
  refine K.RW.l rfl (K.OW.gnew 29 [.int .i64 c.th, .int .i64 c.ok, .int .u32 c.key, .int .u32 c.val, .int .i64 c.rk, .int .u32 c.rv, .int .i64 c.beg, .int .i64 c.en, .int .i64 c.wh, .bool c.cr, .bool c.kp] hS ?_)
  clear hS; intro w r_1 g_2 hg_3 hS
  refine K.RW.qs [.string (K.sb [])] (by kernel_rfl) ?_
  refine K.RW.nil ?_
  refine K.thn_normal ?_
  refine K.KW.seq ?_
  -- 1 :37
  refine K.KW.region ?_
  refine K.RW.qs [.string (K.sb [45])] (by kernel_rfl) ?_
  refine K.RW.nil ?_
  refine K.thn_normal ?_
  refine K.KW.seq ?_
  refine K.KW.seq ?_
  -- 2 :38
  refine K.KW.region ?_
  refine K.RW.qs [.pointer (some ⟨r_1, 9, none⟩)] (by kernel_rfl) ?_
  refine K.RW.q rfl rfl (K.QR.ld1 (v := .bool c.cr) rfl rfl (by kernel_rfl) ((hS.blk 0 rfl hg_3).cell rfl)) ?_
  cases hb_4 : c.cr
  ·
    refine K.RW.nil ?_
    refine K.thn_normal ?_
    refine K.KW.ifF rfl ?_
    refine K.KW.skip ?_
    refine K.thn_normal ?_
    refine K.KW.seq ?_
    refine K.KW.seq ?_
    -- 4 :41
    refine K.KW.region ?_
    refine K.RW.qs [.pointer (some ⟨r_1, 10, none⟩)] (by kernel_rfl) ?_
    refine K.RW.q rfl rfl (K.QR.ld1 (v := .bool c.kp) rfl rfl (by kernel_rfl) ((hS.blk 0 rfl hg_3).cell rfl)) ?_
    cases hb_5 : c.kp
    ·
      refine K.RW.nil ?_
      refine K.thn_normal ?_
      refine K.KW.ifF rfl ?_
      refine K.KW.skip ?_
      refine K.thn_normal ?_
      refine K.KW.seq ?_
      -- 6 :44
      refine K.KW.gdrawn [0] hS (by kernel_rfl) ?_
      clear hS; intro w hS
      refine K.DW.q 0 (by kernel_rfl) rfl rfl (by kernel_rfl) rfl (fun w hS => K.QR.k (v := .pointer (some ⟨r_1, 0, none⟩)) (by kernel_rfl)) (hS.pick [0]) ?_
      refine K.DW.q 1 (by kernel_rfl) rfl rfl (by kernel_rfl) rfl (fun w hS => K.QR.ld1 (v := .int .i64 c.th) rfl rfl (by kernel_rfl) ((hS.blk 0 rfl hg_3).cell rfl)) (hS.pick [0]) ?_
      refine K.DW.q 4 (by kernel_rfl) rfl rfl (by kernel_rfl) rfl (fun w hS => K.QR.k (v := .pointer (some ⟨r_1, 1, none⟩)) (by kernel_rfl)) (hS.pick [0]) ?_
      refine K.DW.q 5 (by kernel_rfl) rfl rfl (by kernel_rfl) rfl (fun w hS => K.QR.k (v := .pointer (some ⟨r_1, 1, none⟩)) (by kernel_rfl)) (hS.pick [0]) ?_
      refine K.DW.q 6 (by kernel_rfl) rfl rfl (by kernel_rfl) rfl (fun w hS => K.QR.ld1 (v := .int .i64 c.ok) rfl rfl (by kernel_rfl) ((hS.blk 0 rfl hg_3).cell rfl)) (hS.pick [0]) ?_
      refine K.DW.q 10 (by kernel_rfl) rfl rfl (by kernel_rfl) rfl (fun w hS => K.QR.k (v := .pointer (some ⟨r_1, 1, none⟩)) (by kernel_rfl)) (hS.pick [0]) ?_
      refine K.DW.q 11 (by kernel_rfl) rfl rfl (by kernel_rfl) rfl (fun w hS => K.QR.k (v := .pointer (some ⟨r_1, 2, none⟩)) (by kernel_rfl)) (hS.pick [0]) ?_
      refine K.DW.q 12 (by kernel_rfl) rfl rfl (by kernel_rfl) rfl (fun w hS => K.QR.ld1 (v := .int .u32 c.key) rfl rfl (by kernel_rfl) ((hS.blk 0 rfl hg_3).cell rfl)) (hS.pick [0]) ?_
      refine K.DW.q 13 (by kernel_rfl) rfl rfl (by kernel_rfl) rfl (fun w hS => K.QR.nice (v := .int .i64 (IntKind.i64.wrap c.key)) (by kernel_rfl) (congrArg (Value.int .i64) (IntWalk.i64_in _ (by omega)))) (hS.pick [0]) ?_
      refine K.DW.q 17 (by kernel_rfl) rfl rfl (by kernel_rfl) rfl (fun w hS => K.QR.k (v := .pointer (some ⟨r_1, 1, none⟩)) (by kernel_rfl)) (hS.pick [0]) ?_
      refine K.DW.q 18 (by kernel_rfl) rfl rfl (by kernel_rfl) rfl (fun w hS => K.QR.k (v := .pointer (some ⟨r_1, 3, none⟩)) (by kernel_rfl)) (hS.pick [0]) ?_
      refine K.DW.q 19 (by kernel_rfl) rfl rfl (by kernel_rfl) rfl (fun w hS => K.QR.ld1 (v := .int .u32 c.val) rfl rfl (by kernel_rfl) ((hS.blk 0 rfl hg_3).cell rfl)) (hS.pick [0]) ?_
      refine K.DW.q 20 (by kernel_rfl) rfl rfl (by kernel_rfl) rfl (fun w hS => K.QR.nice (v := .int .i64 (IntKind.i64.wrap c.val)) (by kernel_rfl) (congrArg (Value.int .i64) (IntWalk.i64_in _ (by omega)))) (hS.pick [0]) ?_
      refine K.DW.l 2 rfl (by kernel_rfl) rfl (K.OW.gcall hS [] [0, 1] [.int .i64 c.th] (rdigitsI_ok _ c.th (by omega) (by omega)) ?_)
      clear hS; rintro _ _ w ⟨rfl, rfl⟩ hS
      replace hS : K.Sat w0 [g_2, fr] w := hS
      refine ⟨.inl (hS.pick [0]), ?_⟩
      refine K.DW.q 3 (by kernel_rfl) rfl rfl (by kernel_rfl) rfl (fun w hS => K.QR.sAdd (xs := (dg c.th.toNat)) (ys := [32]) rfl rfl rfl (by (try simp only [List.length_append, List.length_cons, List.length_nil] at *); omega)) (hS.pick [0]) ?_
      refine K.DW.l 7 rfl (by kernel_rfl) rfl (K.OW.gcall hS [] [0, 1] [.int .i64 c.ok] (rname_ok _ c.ok (by omega)) ?_)
      clear hS; rintro _ _ w ⟨rfl, rfl⟩ hS
      replace hS : K.Sat w0 [g_2, fr] w := hS
      refine ⟨.inl (hS.pick [0]), ?_⟩
      refine K.DW.q 8 (by kernel_rfl) rfl rfl (by kernel_rfl) rfl (fun w hS => K.QR.sAdd (xs := ((dg c.th.toNat) ++ ([32] : List UInt8))) (ys := (opNm.getD c.ok.toNat [])) rfl rfl rfl (by (try simp only [List.length_append, List.length_cons, List.length_nil] at *); omega)) (hS.pick [0]) ?_
      refine K.DW.q 9 (by kernel_rfl) rfl rfl (by kernel_rfl) rfl (fun w hS => K.QR.sAdd (xs := (((dg c.th.toNat) ++ ([32] : List UInt8)) ++ (opNm.getD c.ok.toNat []))) (ys := [32]) rfl rfl rfl (by (try simp only [List.length_append, List.length_cons, List.length_nil] at *); omega)) (hS.pick [0]) ?_
      refine K.DW.l 14 rfl (by kernel_rfl) rfl (K.OW.gcall hS [] [0, 1] [.int .i64 c.key] (rdigitsI_ok _ c.key (by omega) (by omega)) ?_)
      clear hS; rintro _ _ w ⟨rfl, rfl⟩ hS
      replace hS : K.Sat w0 [g_2, fr] w := hS
      refine ⟨.inl (hS.pick [0]), ?_⟩
      refine K.DW.q 15 (by kernel_rfl) rfl rfl (by kernel_rfl) rfl (fun w hS => K.QR.sAdd (xs := ((((dg c.th.toNat) ++ ([32] : List UInt8)) ++ (opNm.getD c.ok.toNat [])) ++ ([32] : List UInt8))) (ys := (dg c.key.toNat)) rfl rfl rfl (by (try simp only [List.length_append, List.length_cons, List.length_nil] at *); omega)) (hS.pick [0]) ?_
      refine K.DW.q 16 (by kernel_rfl) rfl rfl (by kernel_rfl) rfl (fun w hS => K.QR.sAdd (xs := (((((dg c.th.toNat) ++ ([32] : List UInt8)) ++ (opNm.getD c.ok.toNat [])) ++ ([32] : List UInt8)) ++ (dg c.key.toNat))) (ys := [32]) rfl rfl rfl (by (try simp only [List.length_append, List.length_cons, List.length_nil] at *); omega)) (hS.pick [0]) ?_
      refine K.DW.l 21 rfl (by kernel_rfl) rfl (K.OW.gcall hS [] [0, 1] [.int .i64 c.val] (rdigitsI_ok _ c.val (by omega) (by omega)) ?_)
      clear hS; rintro _ _ w ⟨rfl, rfl⟩ hS
      replace hS : K.Sat w0 [g_2, fr] w := hS
      refine ⟨.inl (hS.pick [0]), ?_⟩
      refine K.DW.l 22 rfl (by kernel_rfl) rfl (K.OW.q rfl (K.QR.sAdd (xs := ((((((dg c.th.toNat) ++ ([32] : List UInt8)) ++ (opNm.getD c.ok.toNat [])) ++ ([32] : List UInt8)) ++ (dg c.key.toNat)) ++ ([32] : List UInt8))) (ys := (dg c.val.toNat)) rfl rfl rfl (by (try simp only [List.length_append, List.length_cons, List.length_nil] at *); omega)) ?_)
      refine ⟨.inl (hS.pick [0]), ?_⟩
      refine K.DW.l 23 rfl (by kernel_rfl) rfl (K.OW.q rfl (K.QR.k (v := .string (K.sb (((((((dg c.th.toNat) ++ ([32] : List UInt8)) ++ (opNm.getD c.ok.toNat [])) ++ ([32] : List UInt8)) ++ (dg c.key.toNat)) ++ ([32] : List UInt8)) ++ (dg c.val.toNat)))) (by kernel_rfl)) ?_)
      refine ⟨.inl (hS.pick [0]), ?_⟩
      refine K.DW.done (by kernel_rfl) ?_
      refine K.thn_normal ?_
      refine K.KW.seq ?_
      -- 7 :45
      refine K.KW.gdrawn [0] hS (by kernel_rfl) ?_
      clear hS; intro w hS
      refine K.DW.q 0 (by kernel_rfl) rfl rfl (by kernel_rfl) rfl (fun w hS => K.QR.k (v := .string (K.sb (((((((dg c.th.toNat) ++ ([32] : List UInt8)) ++ (opNm.getD c.ok.toNat [])) ++ ([32] : List UInt8)) ++ (dg c.key.toNat)) ++ ([32] : List UInt8)) ++ (dg c.val.toNat)))) (by kernel_rfl)) (hS.pick [0]) ?_
      refine K.DW.q 1 (by kernel_rfl) rfl rfl (by kernel_rfl) rfl (fun w hS => K.QR.sAdd (xs := (((((((dg c.th.toNat) ++ ([32] : List UInt8)) ++ (opNm.getD c.ok.toNat [])) ++ ([32] : List UInt8)) ++ (dg c.key.toNat)) ++ ([32] : List UInt8)) ++ (dg c.val.toNat))) (ys := [32]) rfl rfl rfl (by (try simp only [List.length_append, List.length_cons, List.length_nil] at *); omega)) (hS.pick [0]) ?_
      refine K.DW.q 2 (by kernel_rfl) rfl rfl (by kernel_rfl) rfl (fun w hS => K.QR.k (v := .pointer (some ⟨r_1, 4, none⟩)) (by kernel_rfl)) (hS.pick [0]) ?_
      refine K.DW.q 3 (by kernel_rfl) rfl rfl (by kernel_rfl) rfl (fun w hS => K.QR.k (v := .pointer (some ⟨r_1, 4, none⟩)) (by kernel_rfl)) (hS.pick [0]) ?_
      refine K.DW.q 4 (by kernel_rfl) rfl rfl (by kernel_rfl) rfl (fun w hS => K.QR.ld1 (v := .int .i64 c.rk) rfl rfl (by kernel_rfl) ((hS.blk 0 rfl hg_3).cell rfl)) (hS.pick [0]) ?_
      refine K.DW.q 8 (by kernel_rfl) rfl rfl (by kernel_rfl) rfl (fun w hS => K.QR.k (v := .pointer (some ⟨r_1, 4, none⟩)) (by kernel_rfl)) (hS.pick [0]) ?_
      refine K.DW.q 9 (by kernel_rfl) rfl rfl (by kernel_rfl) rfl (fun w hS => K.QR.k (v := .pointer (some ⟨r_1, 5, none⟩)) (by kernel_rfl)) (hS.pick [0]) ?_
      refine K.DW.q 10 (by kernel_rfl) rfl rfl (by kernel_rfl) rfl (fun w hS => K.QR.ld1 (v := .int .u32 c.rv) rfl rfl (by kernel_rfl) ((hS.blk 0 rfl hg_3).cell rfl)) (hS.pick [0]) ?_
      refine K.DW.q 11 (by kernel_rfl) rfl rfl (by kernel_rfl) rfl (fun w hS => K.QR.nice (v := .int .i64 (IntKind.i64.wrap c.rv)) (by kernel_rfl) (congrArg (Value.int .i64) (IntWalk.i64_in _ (by omega)))) (hS.pick [0]) ?_
      refine K.DW.l 5 rfl (by kernel_rfl) rfl (K.OW.gcall hS [] [0, 1] [.int .i64 c.rk] (rresult_ok _ c.rk (by omega)) ?_)
      clear hS; rintro _ _ w ⟨rfl, rfl⟩ hS
      replace hS : K.Sat w0 [g_2, fr] w := hS
      refine ⟨.inl (hS.pick [0]), ?_⟩
      refine K.DW.q 6 (by kernel_rfl) rfl rfl (by kernel_rfl) rfl (fun w hS => K.QR.sAdd (xs := ((((((((dg c.th.toNat) ++ ([32] : List UInt8)) ++ (opNm.getD c.ok.toNat [])) ++ ([32] : List UInt8)) ++ (dg c.key.toNat)) ++ ([32] : List UInt8)) ++ (dg c.val.toNat)) ++ ([32] : List UInt8))) (ys := (resNm.getD c.rk.toNat [])) rfl rfl rfl (by (try simp only [List.length_append, List.length_cons, List.length_nil] at *); omega)) (hS.pick [0]) ?_
      refine K.DW.q 7 (by kernel_rfl) rfl rfl (by kernel_rfl) rfl (fun w hS => K.QR.sAdd (xs := (((((((((dg c.th.toNat) ++ ([32] : List UInt8)) ++ (opNm.getD c.ok.toNat [])) ++ ([32] : List UInt8)) ++ (dg c.key.toNat)) ++ ([32] : List UInt8)) ++ (dg c.val.toNat)) ++ ([32] : List UInt8)) ++ (resNm.getD c.rk.toNat []))) (ys := [32]) rfl rfl rfl (by (try simp only [List.length_append, List.length_cons, List.length_nil] at *); omega)) (hS.pick [0]) ?_
      refine K.DW.l 12 rfl (by kernel_rfl) rfl (K.OW.gcall hS [] [0, 1] [.int .i64 c.rv] (rdigitsI_ok _ c.rv (by omega) (by omega)) ?_)
      clear hS; rintro _ _ w ⟨rfl, rfl⟩ hS
      replace hS : K.Sat w0 [g_2, fr] w := hS
      refine ⟨.inl (hS.pick [0]), ?_⟩
      refine K.DW.l 13 rfl (by kernel_rfl) rfl (K.OW.q rfl (K.QR.sAdd (xs := ((((((((((dg c.th.toNat) ++ ([32] : List UInt8)) ++ (opNm.getD c.ok.toNat [])) ++ ([32] : List UInt8)) ++ (dg c.key.toNat)) ++ ([32] : List UInt8)) ++ (dg c.val.toNat)) ++ ([32] : List UInt8)) ++ (resNm.getD c.rk.toNat [])) ++ ([32] : List UInt8))) (ys := (dg c.rv.toNat)) rfl rfl rfl (by (try simp only [List.length_append, List.length_cons, List.length_nil] at *); omega)) ?_)
      refine ⟨.inl (hS.pick [0]), ?_⟩
      refine K.DW.l 14 rfl (by kernel_rfl) rfl (K.OW.q rfl (K.QR.k (v := .string (K.sb (((((((((((dg c.th.toNat) ++ ([32] : List UInt8)) ++ (opNm.getD c.ok.toNat [])) ++ ([32] : List UInt8)) ++ (dg c.key.toNat)) ++ ([32] : List UInt8)) ++ (dg c.val.toNat)) ++ ([32] : List UInt8)) ++ (resNm.getD c.rk.toNat [])) ++ ([32] : List UInt8)) ++ (dg c.rv.toNat)))) (by kernel_rfl)) ?_)
      refine ⟨.inl (hS.pick [0]), ?_⟩
      refine K.DW.done (by kernel_rfl) ?_
      refine K.thn_normal ?_
      refine K.KW.seq ?_
      -- 8 :46
      refine K.KW.gdrawn [0] hS (by kernel_rfl) ?_
      clear hS; intro w hS
      refine K.DW.q 0 (by kernel_rfl) rfl rfl (by kernel_rfl) rfl (fun w hS => K.QR.k (v := .string (K.sb (((((((((((dg c.th.toNat) ++ ([32] : List UInt8)) ++ (opNm.getD c.ok.toNat [])) ++ ([32] : List UInt8)) ++ (dg c.key.toNat)) ++ ([32] : List UInt8)) ++ (dg c.val.toNat)) ++ ([32] : List UInt8)) ++ (resNm.getD c.rk.toNat [])) ++ ([32] : List UInt8)) ++ (dg c.rv.toNat)))) (by kernel_rfl)) (hS.pick [0]) ?_
      refine K.DW.q 1 (by kernel_rfl) rfl rfl (by kernel_rfl) rfl (fun w hS => K.QR.sAdd (xs := (((((((((((dg c.th.toNat) ++ ([32] : List UInt8)) ++ (opNm.getD c.ok.toNat [])) ++ ([32] : List UInt8)) ++ (dg c.key.toNat)) ++ ([32] : List UInt8)) ++ (dg c.val.toNat)) ++ ([32] : List UInt8)) ++ (resNm.getD c.rk.toNat [])) ++ ([32] : List UInt8)) ++ (dg c.rv.toNat))) (ys := [32]) rfl rfl rfl (by (try simp only [List.length_append, List.length_cons, List.length_nil] at *); omega)) (hS.pick [0]) ?_
      refine K.DW.q 2 (by kernel_rfl) rfl rfl (by kernel_rfl) rfl (fun w hS => K.QR.k (v := .pointer (some ⟨r_1, 6, none⟩)) (by kernel_rfl)) (hS.pick [0]) ?_
      refine K.DW.q 3 (by kernel_rfl) rfl rfl (by kernel_rfl) rfl (fun w hS => K.QR.ld1 (v := .int .i64 c.beg) rfl rfl (by kernel_rfl) ((hS.blk 0 rfl hg_3).cell rfl)) (hS.pick [0]) ?_
      refine K.DW.q 7 (by kernel_rfl) rfl rfl (by kernel_rfl) rfl (fun w hS => K.QR.k (v := .pointer (some ⟨r_1, 8, none⟩)) (by kernel_rfl)) (hS.pick [0]) ?_
      refine K.DW.q 8 (by kernel_rfl) rfl rfl (by kernel_rfl) rfl (fun w hS => K.QR.ld1 (v := .int .i64 c.wh) rfl rfl (by kernel_rfl) ((hS.blk 0 rfl hg_3).cell rfl)) (hS.pick [0]) ?_
      refine K.DW.q 12 (by kernel_rfl) rfl rfl (by kernel_rfl) rfl (fun w hS => K.QR.k (v := .pointer (some ⟨r_1, 7, none⟩)) (by kernel_rfl)) (hS.pick [0]) ?_
      refine K.DW.q 13 (by kernel_rfl) rfl rfl (by kernel_rfl) rfl (fun w hS => K.QR.ld1 (v := .int .i64 c.en) rfl rfl (by kernel_rfl) ((hS.blk 0 rfl hg_3).cell rfl)) (hS.pick [0]) ?_
      refine K.DW.q 17 (by kernel_rfl) rfl rfl (by kernel_rfl) rfl (fun w hS => K.QR.k (v := .string (K.sb [45])) (by kernel_rfl)) (hS.pick [0]) ?_
      refine K.DW.l 4 rfl (by kernel_rfl) rfl (K.OW.gcall hS [] [0, 1] [.int .i64 c.beg] (rtimes_ok _ c.beg (by omega) (by omega)) ?_)
      clear hS; rintro _ _ w ⟨rfl, rfl⟩ hS
      replace hS : K.Sat w0 [g_2, fr] w := hS
      refine ⟨.inl (hS.pick [0]), ?_⟩
      refine K.DW.q 5 (by kernel_rfl) rfl rfl (by kernel_rfl) rfl (fun w hS => K.QR.sAdd (xs := ((((((((((((dg c.th.toNat) ++ ([32] : List UInt8)) ++ (opNm.getD c.ok.toNat [])) ++ ([32] : List UInt8)) ++ (dg c.key.toNat)) ++ ([32] : List UInt8)) ++ (dg c.val.toNat)) ++ ([32] : List UInt8)) ++ (resNm.getD c.rk.toNat [])) ++ ([32] : List UInt8)) ++ (dg c.rv.toNat)) ++ ([32] : List UInt8))) (ys := (dgR c.beg)) rfl rfl rfl (by (try simp only [List.length_append, List.length_cons, List.length_nil] at *); omega)) (hS.pick [0]) ?_
      refine K.DW.q 6 (by kernel_rfl) rfl rfl (by kernel_rfl) rfl (fun w hS => K.QR.sAdd (xs := (((((((((((((dg c.th.toNat) ++ ([32] : List UInt8)) ++ (opNm.getD c.ok.toNat [])) ++ ([32] : List UInt8)) ++ (dg c.key.toNat)) ++ ([32] : List UInt8)) ++ (dg c.val.toNat)) ++ ([32] : List UInt8)) ++ (resNm.getD c.rk.toNat [])) ++ ([32] : List UInt8)) ++ (dg c.rv.toNat)) ++ ([32] : List UInt8)) ++ (dgR c.beg))) (ys := [32]) rfl rfl rfl (by (try simp only [List.length_append, List.length_cons, List.length_nil] at *); omega)) (hS.pick [0]) ?_
      refine K.DW.l 9 rfl (by kernel_rfl) rfl (K.OW.gcall hS [] [0, 1] [.int .i64 c.wh] (rtimes_ok _ c.wh (by omega) (by omega)) ?_)
      clear hS; rintro _ _ w ⟨rfl, rfl⟩ hS
      replace hS : K.Sat w0 [g_2, fr] w := hS
      refine ⟨.inl (hS.pick [0]), ?_⟩
      refine K.DW.q 10 (by kernel_rfl) rfl rfl (by kernel_rfl) rfl (fun w hS => K.QR.sAdd (xs := ((((((((((((((dg c.th.toNat) ++ ([32] : List UInt8)) ++ (opNm.getD c.ok.toNat [])) ++ ([32] : List UInt8)) ++ (dg c.key.toNat)) ++ ([32] : List UInt8)) ++ (dg c.val.toNat)) ++ ([32] : List UInt8)) ++ (resNm.getD c.rk.toNat [])) ++ ([32] : List UInt8)) ++ (dg c.rv.toNat)) ++ ([32] : List UInt8)) ++ (dgR c.beg)) ++ ([32] : List UInt8))) (ys := (dgR c.wh)) rfl rfl rfl (by (try simp only [List.length_append, List.length_cons, List.length_nil] at *); omega)) (hS.pick [0]) ?_
      refine K.DW.q 11 (by kernel_rfl) rfl rfl (by kernel_rfl) rfl (fun w hS => K.QR.sAdd (xs := (((((((((((((((dg c.th.toNat) ++ ([32] : List UInt8)) ++ (opNm.getD c.ok.toNat [])) ++ ([32] : List UInt8)) ++ (dg c.key.toNat)) ++ ([32] : List UInt8)) ++ (dg c.val.toNat)) ++ ([32] : List UInt8)) ++ (resNm.getD c.rk.toNat [])) ++ ([32] : List UInt8)) ++ (dg c.rv.toNat)) ++ ([32] : List UInt8)) ++ (dgR c.beg)) ++ ([32] : List UInt8)) ++ (dgR c.wh))) (ys := [32]) rfl rfl rfl (by (try simp only [List.length_append, List.length_cons, List.length_nil] at *); omega)) (hS.pick [0]) ?_
      refine K.DW.l 14 rfl (by kernel_rfl) rfl (K.OW.gcall hS [] [0, 1] [.int .i64 c.en] (rtimes_ok _ c.en (by omega) (by omega)) ?_)
      clear hS; rintro _ _ w ⟨rfl, rfl⟩ hS
      replace hS : K.Sat w0 [g_2, fr] w := hS
      refine ⟨.inl (hS.pick [0]), ?_⟩
      refine K.DW.l 15 rfl (by kernel_rfl) rfl (K.OW.q rfl (K.QR.sAdd (xs := ((((((((((((((((dg c.th.toNat) ++ ([32] : List UInt8)) ++ (opNm.getD c.ok.toNat [])) ++ ([32] : List UInt8)) ++ (dg c.key.toNat)) ++ ([32] : List UInt8)) ++ (dg c.val.toNat)) ++ ([32] : List UInt8)) ++ (resNm.getD c.rk.toNat [])) ++ ([32] : List UInt8)) ++ (dg c.rv.toNat)) ++ ([32] : List UInt8)) ++ (dgR c.beg)) ++ ([32] : List UInt8)) ++ (dgR c.wh)) ++ ([32] : List UInt8))) (ys := (dgR c.en)) rfl rfl rfl (by (try simp only [List.length_append, List.length_cons, List.length_nil] at *); omega)) ?_)
      refine ⟨.inl (hS.pick [0]), ?_⟩
      refine K.DW.l 16 rfl (by kernel_rfl) rfl (K.OW.q rfl (K.QR.sAdd (xs := (((((((((((((((((dg c.th.toNat) ++ ([32] : List UInt8)) ++ (opNm.getD c.ok.toNat [])) ++ ([32] : List UInt8)) ++ (dg c.key.toNat)) ++ ([32] : List UInt8)) ++ (dg c.val.toNat)) ++ ([32] : List UInt8)) ++ (resNm.getD c.rk.toNat [])) ++ ([32] : List UInt8)) ++ (dg c.rv.toNat)) ++ ([32] : List UInt8)) ++ (dgR c.beg)) ++ ([32] : List UInt8)) ++ (dgR c.wh)) ++ ([32] : List UInt8)) ++ (dgR c.en))) (ys := [32]) rfl rfl rfl (by (try simp only [List.length_append, List.length_cons, List.length_nil] at *); omega)) ?_)
      refine ⟨.inl (hS.pick [0]), ?_⟩
      refine K.DW.l 18 rfl (by kernel_rfl) rfl (K.OW.q rfl (K.QR.sAdd (xs := ((((((((((((((((((dg c.th.toNat) ++ ([32] : List UInt8)) ++ (opNm.getD c.ok.toNat [])) ++ ([32] : List UInt8)) ++ (dg c.key.toNat)) ++ ([32] : List UInt8)) ++ (dg c.val.toNat)) ++ ([32] : List UInt8)) ++ (resNm.getD c.rk.toNat [])) ++ ([32] : List UInt8)) ++ (dg c.rv.toNat)) ++ ([32] : List UInt8)) ++ (dgR c.beg)) ++ ([32] : List UInt8)) ++ (dgR c.wh)) ++ ([32] : List UInt8)) ++ (dgR c.en)) ++ ([32] : List UInt8))) (ys := [45]) rfl rfl rfl (by (try simp only [List.length_append, List.length_cons, List.length_nil] at *); omega)) ?_)
      refine ⟨.inl (hS.pick [0]), ?_⟩
      refine K.DW.l 19 rfl (by kernel_rfl) rfl (K.OW.q rfl (K.QR.k (v := .string (K.sb (((((((((((((((((((dg c.th.toNat) ++ ([32] : List UInt8)) ++ (opNm.getD c.ok.toNat [])) ++ ([32] : List UInt8)) ++ (dg c.key.toNat)) ++ ([32] : List UInt8)) ++ (dg c.val.toNat)) ++ ([32] : List UInt8)) ++ (resNm.getD c.rk.toNat [])) ++ ([32] : List UInt8)) ++ (dg c.rv.toNat)) ++ ([32] : List UInt8)) ++ (dgR c.beg)) ++ ([32] : List UInt8)) ++ (dgR c.wh)) ++ ([32] : List UInt8)) ++ (dgR c.en)) ++ ([32] : List UInt8)) ++ ([45] : List UInt8)))) (by kernel_rfl)) ?_)
      refine ⟨.inl (hS.pick [0]), ?_⟩
      refine K.DW.done (by kernel_rfl) ?_
      refine K.thn_normal ?_
      refine K.KW.ret ?_
      refine ⟨.inr rfl, rfl, (.string (K.sb (((((((((((((((((((dg c.th.toNat) ++ ([32] : List UInt8)) ++ (opNm.getD c.ok.toNat [])) ++ ([32] : List UInt8)) ++ (dg c.key.toNat)) ++ ([32] : List UInt8)) ++ (dg c.val.toNat)) ++ ([32] : List UInt8)) ++ (resNm.getD c.rk.toNat [])) ++ ([32] : List UInt8)) ++ (dg c.rv.toNat)) ++ ([32] : List UInt8)) ++ (dgR c.beg)) ++ ([32] : List UInt8)) ++ (dgR c.wh)) ++ ([32] : List UInt8)) ++ (dgR c.en)) ++ ([32] : List UInt8)) ++ ([45] : List UInt8)))), K.res1 rfl rfl, [], ?_, hS.pick [1]⟩
      refine ⟨rfl, ?_⟩
      rw [lineR_is hmay hf]
      unfold endR
      simp [*]
    ·
      refine K.RW.nil ?_
      refine K.thn_normal ?_
      refine K.KW.ifT rfl ?_
      -- 5 :42
      refine K.KW.region ?_
      refine K.RW.qs [.string (K.sb [107, 101, 112, 116])] (by kernel_rfl) ?_
      refine K.RW.nil ?_
      refine K.thn_normal ?_
      refine K.KW.seq ?_
      -- 6 :44
      refine K.KW.gdrawn [0] hS (by kernel_rfl) ?_
      clear hS; intro w hS
      refine K.DW.q 0 (by kernel_rfl) rfl rfl (by kernel_rfl) rfl (fun w hS => K.QR.k (v := .pointer (some ⟨r_1, 0, none⟩)) (by kernel_rfl)) (hS.pick [0]) ?_
      refine K.DW.q 1 (by kernel_rfl) rfl rfl (by kernel_rfl) rfl (fun w hS => K.QR.ld1 (v := .int .i64 c.th) rfl rfl (by kernel_rfl) ((hS.blk 0 rfl hg_3).cell rfl)) (hS.pick [0]) ?_
      refine K.DW.q 4 (by kernel_rfl) rfl rfl (by kernel_rfl) rfl (fun w hS => K.QR.k (v := .pointer (some ⟨r_1, 1, none⟩)) (by kernel_rfl)) (hS.pick [0]) ?_
      refine K.DW.q 5 (by kernel_rfl) rfl rfl (by kernel_rfl) rfl (fun w hS => K.QR.k (v := .pointer (some ⟨r_1, 1, none⟩)) (by kernel_rfl)) (hS.pick [0]) ?_
      refine K.DW.q 6 (by kernel_rfl) rfl rfl (by kernel_rfl) rfl (fun w hS => K.QR.ld1 (v := .int .i64 c.ok) rfl rfl (by kernel_rfl) ((hS.blk 0 rfl hg_3).cell rfl)) (hS.pick [0]) ?_
      refine K.DW.q 10 (by kernel_rfl) rfl rfl (by kernel_rfl) rfl (fun w hS => K.QR.k (v := .pointer (some ⟨r_1, 1, none⟩)) (by kernel_rfl)) (hS.pick [0]) ?_
      refine K.DW.q 11 (by kernel_rfl) rfl rfl (by kernel_rfl) rfl (fun w hS => K.QR.k (v := .pointer (some ⟨r_1, 2, none⟩)) (by kernel_rfl)) (hS.pick [0]) ?_
      refine K.DW.q 12 (by kernel_rfl) rfl rfl (by kernel_rfl) rfl (fun w hS => K.QR.ld1 (v := .int .u32 c.key) rfl rfl (by kernel_rfl) ((hS.blk 0 rfl hg_3).cell rfl)) (hS.pick [0]) ?_
      refine K.DW.q 13 (by kernel_rfl) rfl rfl (by kernel_rfl) rfl (fun w hS => K.QR.nice (v := .int .i64 (IntKind.i64.wrap c.key)) (by kernel_rfl) (congrArg (Value.int .i64) (IntWalk.i64_in _ (by omega)))) (hS.pick [0]) ?_
      refine K.DW.q 17 (by kernel_rfl) rfl rfl (by kernel_rfl) rfl (fun w hS => K.QR.k (v := .pointer (some ⟨r_1, 1, none⟩)) (by kernel_rfl)) (hS.pick [0]) ?_
      refine K.DW.q 18 (by kernel_rfl) rfl rfl (by kernel_rfl) rfl (fun w hS => K.QR.k (v := .pointer (some ⟨r_1, 3, none⟩)) (by kernel_rfl)) (hS.pick [0]) ?_
      refine K.DW.q 19 (by kernel_rfl) rfl rfl (by kernel_rfl) rfl (fun w hS => K.QR.ld1 (v := .int .u32 c.val) rfl rfl (by kernel_rfl) ((hS.blk 0 rfl hg_3).cell rfl)) (hS.pick [0]) ?_
      refine K.DW.q 20 (by kernel_rfl) rfl rfl (by kernel_rfl) rfl (fun w hS => K.QR.nice (v := .int .i64 (IntKind.i64.wrap c.val)) (by kernel_rfl) (congrArg (Value.int .i64) (IntWalk.i64_in _ (by omega)))) (hS.pick [0]) ?_
      refine K.DW.l 2 rfl (by kernel_rfl) rfl (K.OW.gcall hS [] [0, 1] [.int .i64 c.th] (rdigitsI_ok _ c.th (by omega) (by omega)) ?_)
      clear hS; rintro _ _ w ⟨rfl, rfl⟩ hS
      replace hS : K.Sat w0 [g_2, fr] w := hS
      refine ⟨.inl (hS.pick [0]), ?_⟩
      refine K.DW.q 3 (by kernel_rfl) rfl rfl (by kernel_rfl) rfl (fun w hS => K.QR.sAdd (xs := (dg c.th.toNat)) (ys := [32]) rfl rfl rfl (by (try simp only [List.length_append, List.length_cons, List.length_nil] at *); omega)) (hS.pick [0]) ?_
      refine K.DW.l 7 rfl (by kernel_rfl) rfl (K.OW.gcall hS [] [0, 1] [.int .i64 c.ok] (rname_ok _ c.ok (by omega)) ?_)
      clear hS; rintro _ _ w ⟨rfl, rfl⟩ hS
      replace hS : K.Sat w0 [g_2, fr] w := hS
      refine ⟨.inl (hS.pick [0]), ?_⟩
      refine K.DW.q 8 (by kernel_rfl) rfl rfl (by kernel_rfl) rfl (fun w hS => K.QR.sAdd (xs := ((dg c.th.toNat) ++ ([32] : List UInt8))) (ys := (opNm.getD c.ok.toNat [])) rfl rfl rfl (by (try simp only [List.length_append, List.length_cons, List.length_nil] at *); omega)) (hS.pick [0]) ?_
      refine K.DW.q 9 (by kernel_rfl) rfl rfl (by kernel_rfl) rfl (fun w hS => K.QR.sAdd (xs := (((dg c.th.toNat) ++ ([32] : List UInt8)) ++ (opNm.getD c.ok.toNat []))) (ys := [32]) rfl rfl rfl (by (try simp only [List.length_append, List.length_cons, List.length_nil] at *); omega)) (hS.pick [0]) ?_
      refine K.DW.l 14 rfl (by kernel_rfl) rfl (K.OW.gcall hS [] [0, 1] [.int .i64 c.key] (rdigitsI_ok _ c.key (by omega) (by omega)) ?_)
      clear hS; rintro _ _ w ⟨rfl, rfl⟩ hS
      replace hS : K.Sat w0 [g_2, fr] w := hS
      refine ⟨.inl (hS.pick [0]), ?_⟩
      refine K.DW.q 15 (by kernel_rfl) rfl rfl (by kernel_rfl) rfl (fun w hS => K.QR.sAdd (xs := ((((dg c.th.toNat) ++ ([32] : List UInt8)) ++ (opNm.getD c.ok.toNat [])) ++ ([32] : List UInt8))) (ys := (dg c.key.toNat)) rfl rfl rfl (by (try simp only [List.length_append, List.length_cons, List.length_nil] at *); omega)) (hS.pick [0]) ?_
      refine K.DW.q 16 (by kernel_rfl) rfl rfl (by kernel_rfl) rfl (fun w hS => K.QR.sAdd (xs := (((((dg c.th.toNat) ++ ([32] : List UInt8)) ++ (opNm.getD c.ok.toNat [])) ++ ([32] : List UInt8)) ++ (dg c.key.toNat))) (ys := [32]) rfl rfl rfl (by (try simp only [List.length_append, List.length_cons, List.length_nil] at *); omega)) (hS.pick [0]) ?_
      refine K.DW.l 21 rfl (by kernel_rfl) rfl (K.OW.gcall hS [] [0, 1] [.int .i64 c.val] (rdigitsI_ok _ c.val (by omega) (by omega)) ?_)
      clear hS; rintro _ _ w ⟨rfl, rfl⟩ hS
      replace hS : K.Sat w0 [g_2, fr] w := hS
      refine ⟨.inl (hS.pick [0]), ?_⟩
      refine K.DW.l 22 rfl (by kernel_rfl) rfl (K.OW.q rfl (K.QR.sAdd (xs := ((((((dg c.th.toNat) ++ ([32] : List UInt8)) ++ (opNm.getD c.ok.toNat [])) ++ ([32] : List UInt8)) ++ (dg c.key.toNat)) ++ ([32] : List UInt8))) (ys := (dg c.val.toNat)) rfl rfl rfl (by (try simp only [List.length_append, List.length_cons, List.length_nil] at *); omega)) ?_)
      refine ⟨.inl (hS.pick [0]), ?_⟩
      refine K.DW.l 23 rfl (by kernel_rfl) rfl (K.OW.q rfl (K.QR.k (v := .string (K.sb (((((((dg c.th.toNat) ++ ([32] : List UInt8)) ++ (opNm.getD c.ok.toNat [])) ++ ([32] : List UInt8)) ++ (dg c.key.toNat)) ++ ([32] : List UInt8)) ++ (dg c.val.toNat)))) (by kernel_rfl)) ?_)
      refine ⟨.inl (hS.pick [0]), ?_⟩
      refine K.DW.done (by kernel_rfl) ?_
      refine K.thn_normal ?_
      refine K.KW.seq ?_
      -- 7 :45
      refine K.KW.gdrawn [0] hS (by kernel_rfl) ?_
      clear hS; intro w hS
      refine K.DW.q 0 (by kernel_rfl) rfl rfl (by kernel_rfl) rfl (fun w hS => K.QR.k (v := .string (K.sb (((((((dg c.th.toNat) ++ ([32] : List UInt8)) ++ (opNm.getD c.ok.toNat [])) ++ ([32] : List UInt8)) ++ (dg c.key.toNat)) ++ ([32] : List UInt8)) ++ (dg c.val.toNat)))) (by kernel_rfl)) (hS.pick [0]) ?_
      refine K.DW.q 1 (by kernel_rfl) rfl rfl (by kernel_rfl) rfl (fun w hS => K.QR.sAdd (xs := (((((((dg c.th.toNat) ++ ([32] : List UInt8)) ++ (opNm.getD c.ok.toNat [])) ++ ([32] : List UInt8)) ++ (dg c.key.toNat)) ++ ([32] : List UInt8)) ++ (dg c.val.toNat))) (ys := [32]) rfl rfl rfl (by (try simp only [List.length_append, List.length_cons, List.length_nil] at *); omega)) (hS.pick [0]) ?_
      refine K.DW.q 2 (by kernel_rfl) rfl rfl (by kernel_rfl) rfl (fun w hS => K.QR.k (v := .pointer (some ⟨r_1, 4, none⟩)) (by kernel_rfl)) (hS.pick [0]) ?_
      refine K.DW.q 3 (by kernel_rfl) rfl rfl (by kernel_rfl) rfl (fun w hS => K.QR.k (v := .pointer (some ⟨r_1, 4, none⟩)) (by kernel_rfl)) (hS.pick [0]) ?_
      refine K.DW.q 4 (by kernel_rfl) rfl rfl (by kernel_rfl) rfl (fun w hS => K.QR.ld1 (v := .int .i64 c.rk) rfl rfl (by kernel_rfl) ((hS.blk 0 rfl hg_3).cell rfl)) (hS.pick [0]) ?_
      refine K.DW.q 8 (by kernel_rfl) rfl rfl (by kernel_rfl) rfl (fun w hS => K.QR.k (v := .pointer (some ⟨r_1, 4, none⟩)) (by kernel_rfl)) (hS.pick [0]) ?_
      refine K.DW.q 9 (by kernel_rfl) rfl rfl (by kernel_rfl) rfl (fun w hS => K.QR.k (v := .pointer (some ⟨r_1, 5, none⟩)) (by kernel_rfl)) (hS.pick [0]) ?_
      refine K.DW.q 10 (by kernel_rfl) rfl rfl (by kernel_rfl) rfl (fun w hS => K.QR.ld1 (v := .int .u32 c.rv) rfl rfl (by kernel_rfl) ((hS.blk 0 rfl hg_3).cell rfl)) (hS.pick [0]) ?_
      refine K.DW.q 11 (by kernel_rfl) rfl rfl (by kernel_rfl) rfl (fun w hS => K.QR.nice (v := .int .i64 (IntKind.i64.wrap c.rv)) (by kernel_rfl) (congrArg (Value.int .i64) (IntWalk.i64_in _ (by omega)))) (hS.pick [0]) ?_
      refine K.DW.l 5 rfl (by kernel_rfl) rfl (K.OW.gcall hS [] [0, 1] [.int .i64 c.rk] (rresult_ok _ c.rk (by omega)) ?_)
      clear hS; rintro _ _ w ⟨rfl, rfl⟩ hS
      replace hS : K.Sat w0 [g_2, fr] w := hS
      refine ⟨.inl (hS.pick [0]), ?_⟩
      refine K.DW.q 6 (by kernel_rfl) rfl rfl (by kernel_rfl) rfl (fun w hS => K.QR.sAdd (xs := ((((((((dg c.th.toNat) ++ ([32] : List UInt8)) ++ (opNm.getD c.ok.toNat [])) ++ ([32] : List UInt8)) ++ (dg c.key.toNat)) ++ ([32] : List UInt8)) ++ (dg c.val.toNat)) ++ ([32] : List UInt8))) (ys := (resNm.getD c.rk.toNat [])) rfl rfl rfl (by (try simp only [List.length_append, List.length_cons, List.length_nil] at *); omega)) (hS.pick [0]) ?_
      refine K.DW.q 7 (by kernel_rfl) rfl rfl (by kernel_rfl) rfl (fun w hS => K.QR.sAdd (xs := (((((((((dg c.th.toNat) ++ ([32] : List UInt8)) ++ (opNm.getD c.ok.toNat [])) ++ ([32] : List UInt8)) ++ (dg c.key.toNat)) ++ ([32] : List UInt8)) ++ (dg c.val.toNat)) ++ ([32] : List UInt8)) ++ (resNm.getD c.rk.toNat []))) (ys := [32]) rfl rfl rfl (by (try simp only [List.length_append, List.length_cons, List.length_nil] at *); omega)) (hS.pick [0]) ?_
      refine K.DW.l 12 rfl (by kernel_rfl) rfl (K.OW.gcall hS [] [0, 1] [.int .i64 c.rv] (rdigitsI_ok _ c.rv (by omega) (by omega)) ?_)
      clear hS; rintro _ _ w ⟨rfl, rfl⟩ hS
      replace hS : K.Sat w0 [g_2, fr] w := hS
      refine ⟨.inl (hS.pick [0]), ?_⟩
      refine K.DW.l 13 rfl (by kernel_rfl) rfl (K.OW.q rfl (K.QR.sAdd (xs := ((((((((((dg c.th.toNat) ++ ([32] : List UInt8)) ++ (opNm.getD c.ok.toNat [])) ++ ([32] : List UInt8)) ++ (dg c.key.toNat)) ++ ([32] : List UInt8)) ++ (dg c.val.toNat)) ++ ([32] : List UInt8)) ++ (resNm.getD c.rk.toNat [])) ++ ([32] : List UInt8))) (ys := (dg c.rv.toNat)) rfl rfl rfl (by (try simp only [List.length_append, List.length_cons, List.length_nil] at *); omega)) ?_)
      refine ⟨.inl (hS.pick [0]), ?_⟩
      refine K.DW.l 14 rfl (by kernel_rfl) rfl (K.OW.q rfl (K.QR.k (v := .string (K.sb (((((((((((dg c.th.toNat) ++ ([32] : List UInt8)) ++ (opNm.getD c.ok.toNat [])) ++ ([32] : List UInt8)) ++ (dg c.key.toNat)) ++ ([32] : List UInt8)) ++ (dg c.val.toNat)) ++ ([32] : List UInt8)) ++ (resNm.getD c.rk.toNat [])) ++ ([32] : List UInt8)) ++ (dg c.rv.toNat)))) (by kernel_rfl)) ?_)
      refine ⟨.inl (hS.pick [0]), ?_⟩
      refine K.DW.done (by kernel_rfl) ?_
      refine K.thn_normal ?_
      refine K.KW.seq ?_
      -- 8 :46
      refine K.KW.gdrawn [0] hS (by kernel_rfl) ?_
      clear hS; intro w hS
      refine K.DW.q 0 (by kernel_rfl) rfl rfl (by kernel_rfl) rfl (fun w hS => K.QR.k (v := .string (K.sb (((((((((((dg c.th.toNat) ++ ([32] : List UInt8)) ++ (opNm.getD c.ok.toNat [])) ++ ([32] : List UInt8)) ++ (dg c.key.toNat)) ++ ([32] : List UInt8)) ++ (dg c.val.toNat)) ++ ([32] : List UInt8)) ++ (resNm.getD c.rk.toNat [])) ++ ([32] : List UInt8)) ++ (dg c.rv.toNat)))) (by kernel_rfl)) (hS.pick [0]) ?_
      refine K.DW.q 1 (by kernel_rfl) rfl rfl (by kernel_rfl) rfl (fun w hS => K.QR.sAdd (xs := (((((((((((dg c.th.toNat) ++ ([32] : List UInt8)) ++ (opNm.getD c.ok.toNat [])) ++ ([32] : List UInt8)) ++ (dg c.key.toNat)) ++ ([32] : List UInt8)) ++ (dg c.val.toNat)) ++ ([32] : List UInt8)) ++ (resNm.getD c.rk.toNat [])) ++ ([32] : List UInt8)) ++ (dg c.rv.toNat))) (ys := [32]) rfl rfl rfl (by (try simp only [List.length_append, List.length_cons, List.length_nil] at *); omega)) (hS.pick [0]) ?_
      refine K.DW.q 2 (by kernel_rfl) rfl rfl (by kernel_rfl) rfl (fun w hS => K.QR.k (v := .pointer (some ⟨r_1, 6, none⟩)) (by kernel_rfl)) (hS.pick [0]) ?_
      refine K.DW.q 3 (by kernel_rfl) rfl rfl (by kernel_rfl) rfl (fun w hS => K.QR.ld1 (v := .int .i64 c.beg) rfl rfl (by kernel_rfl) ((hS.blk 0 rfl hg_3).cell rfl)) (hS.pick [0]) ?_
      refine K.DW.q 7 (by kernel_rfl) rfl rfl (by kernel_rfl) rfl (fun w hS => K.QR.k (v := .pointer (some ⟨r_1, 8, none⟩)) (by kernel_rfl)) (hS.pick [0]) ?_
      refine K.DW.q 8 (by kernel_rfl) rfl rfl (by kernel_rfl) rfl (fun w hS => K.QR.ld1 (v := .int .i64 c.wh) rfl rfl (by kernel_rfl) ((hS.blk 0 rfl hg_3).cell rfl)) (hS.pick [0]) ?_
      refine K.DW.q 12 (by kernel_rfl) rfl rfl (by kernel_rfl) rfl (fun w hS => K.QR.k (v := .pointer (some ⟨r_1, 7, none⟩)) (by kernel_rfl)) (hS.pick [0]) ?_
      refine K.DW.q 13 (by kernel_rfl) rfl rfl (by kernel_rfl) rfl (fun w hS => K.QR.ld1 (v := .int .i64 c.en) rfl rfl (by kernel_rfl) ((hS.blk 0 rfl hg_3).cell rfl)) (hS.pick [0]) ?_
      refine K.DW.q 17 (by kernel_rfl) rfl rfl (by kernel_rfl) rfl (fun w hS => K.QR.k (v := .string (K.sb [107, 101, 112, 116])) (by kernel_rfl)) (hS.pick [0]) ?_
      refine K.DW.l 4 rfl (by kernel_rfl) rfl (K.OW.gcall hS [] [0, 1] [.int .i64 c.beg] (rtimes_ok _ c.beg (by omega) (by omega)) ?_)
      clear hS; rintro _ _ w ⟨rfl, rfl⟩ hS
      replace hS : K.Sat w0 [g_2, fr] w := hS
      refine ⟨.inl (hS.pick [0]), ?_⟩
      refine K.DW.q 5 (by kernel_rfl) rfl rfl (by kernel_rfl) rfl (fun w hS => K.QR.sAdd (xs := ((((((((((((dg c.th.toNat) ++ ([32] : List UInt8)) ++ (opNm.getD c.ok.toNat [])) ++ ([32] : List UInt8)) ++ (dg c.key.toNat)) ++ ([32] : List UInt8)) ++ (dg c.val.toNat)) ++ ([32] : List UInt8)) ++ (resNm.getD c.rk.toNat [])) ++ ([32] : List UInt8)) ++ (dg c.rv.toNat)) ++ ([32] : List UInt8))) (ys := (dgR c.beg)) rfl rfl rfl (by (try simp only [List.length_append, List.length_cons, List.length_nil] at *); omega)) (hS.pick [0]) ?_
      refine K.DW.q 6 (by kernel_rfl) rfl rfl (by kernel_rfl) rfl (fun w hS => K.QR.sAdd (xs := (((((((((((((dg c.th.toNat) ++ ([32] : List UInt8)) ++ (opNm.getD c.ok.toNat [])) ++ ([32] : List UInt8)) ++ (dg c.key.toNat)) ++ ([32] : List UInt8)) ++ (dg c.val.toNat)) ++ ([32] : List UInt8)) ++ (resNm.getD c.rk.toNat [])) ++ ([32] : List UInt8)) ++ (dg c.rv.toNat)) ++ ([32] : List UInt8)) ++ (dgR c.beg))) (ys := [32]) rfl rfl rfl (by (try simp only [List.length_append, List.length_cons, List.length_nil] at *); omega)) (hS.pick [0]) ?_
      refine K.DW.l 9 rfl (by kernel_rfl) rfl (K.OW.gcall hS [] [0, 1] [.int .i64 c.wh] (rtimes_ok _ c.wh (by omega) (by omega)) ?_)
      clear hS; rintro _ _ w ⟨rfl, rfl⟩ hS
      replace hS : K.Sat w0 [g_2, fr] w := hS
      refine ⟨.inl (hS.pick [0]), ?_⟩
      refine K.DW.q 10 (by kernel_rfl) rfl rfl (by kernel_rfl) rfl (fun w hS => K.QR.sAdd (xs := ((((((((((((((dg c.th.toNat) ++ ([32] : List UInt8)) ++ (opNm.getD c.ok.toNat [])) ++ ([32] : List UInt8)) ++ (dg c.key.toNat)) ++ ([32] : List UInt8)) ++ (dg c.val.toNat)) ++ ([32] : List UInt8)) ++ (resNm.getD c.rk.toNat [])) ++ ([32] : List UInt8)) ++ (dg c.rv.toNat)) ++ ([32] : List UInt8)) ++ (dgR c.beg)) ++ ([32] : List UInt8))) (ys := (dgR c.wh)) rfl rfl rfl (by (try simp only [List.length_append, List.length_cons, List.length_nil] at *); omega)) (hS.pick [0]) ?_
      refine K.DW.q 11 (by kernel_rfl) rfl rfl (by kernel_rfl) rfl (fun w hS => K.QR.sAdd (xs := (((((((((((((((dg c.th.toNat) ++ ([32] : List UInt8)) ++ (opNm.getD c.ok.toNat [])) ++ ([32] : List UInt8)) ++ (dg c.key.toNat)) ++ ([32] : List UInt8)) ++ (dg c.val.toNat)) ++ ([32] : List UInt8)) ++ (resNm.getD c.rk.toNat [])) ++ ([32] : List UInt8)) ++ (dg c.rv.toNat)) ++ ([32] : List UInt8)) ++ (dgR c.beg)) ++ ([32] : List UInt8)) ++ (dgR c.wh))) (ys := [32]) rfl rfl rfl (by (try simp only [List.length_append, List.length_cons, List.length_nil] at *); omega)) (hS.pick [0]) ?_
      refine K.DW.l 14 rfl (by kernel_rfl) rfl (K.OW.gcall hS [] [0, 1] [.int .i64 c.en] (rtimes_ok _ c.en (by omega) (by omega)) ?_)
      clear hS; rintro _ _ w ⟨rfl, rfl⟩ hS
      replace hS : K.Sat w0 [g_2, fr] w := hS
      refine ⟨.inl (hS.pick [0]), ?_⟩
      refine K.DW.l 15 rfl (by kernel_rfl) rfl (K.OW.q rfl (K.QR.sAdd (xs := ((((((((((((((((dg c.th.toNat) ++ ([32] : List UInt8)) ++ (opNm.getD c.ok.toNat [])) ++ ([32] : List UInt8)) ++ (dg c.key.toNat)) ++ ([32] : List UInt8)) ++ (dg c.val.toNat)) ++ ([32] : List UInt8)) ++ (resNm.getD c.rk.toNat [])) ++ ([32] : List UInt8)) ++ (dg c.rv.toNat)) ++ ([32] : List UInt8)) ++ (dgR c.beg)) ++ ([32] : List UInt8)) ++ (dgR c.wh)) ++ ([32] : List UInt8))) (ys := (dgR c.en)) rfl rfl rfl (by (try simp only [List.length_append, List.length_cons, List.length_nil] at *); omega)) ?_)
      refine ⟨.inl (hS.pick [0]), ?_⟩
      refine K.DW.l 16 rfl (by kernel_rfl) rfl (K.OW.q rfl (K.QR.sAdd (xs := (((((((((((((((((dg c.th.toNat) ++ ([32] : List UInt8)) ++ (opNm.getD c.ok.toNat [])) ++ ([32] : List UInt8)) ++ (dg c.key.toNat)) ++ ([32] : List UInt8)) ++ (dg c.val.toNat)) ++ ([32] : List UInt8)) ++ (resNm.getD c.rk.toNat [])) ++ ([32] : List UInt8)) ++ (dg c.rv.toNat)) ++ ([32] : List UInt8)) ++ (dgR c.beg)) ++ ([32] : List UInt8)) ++ (dgR c.wh)) ++ ([32] : List UInt8)) ++ (dgR c.en))) (ys := [32]) rfl rfl rfl (by (try simp only [List.length_append, List.length_cons, List.length_nil] at *); omega)) ?_)
      refine ⟨.inl (hS.pick [0]), ?_⟩
      refine K.DW.l 18 rfl (by kernel_rfl) rfl (K.OW.q rfl (K.QR.sAdd (xs := ((((((((((((((((((dg c.th.toNat) ++ ([32] : List UInt8)) ++ (opNm.getD c.ok.toNat [])) ++ ([32] : List UInt8)) ++ (dg c.key.toNat)) ++ ([32] : List UInt8)) ++ (dg c.val.toNat)) ++ ([32] : List UInt8)) ++ (resNm.getD c.rk.toNat [])) ++ ([32] : List UInt8)) ++ (dg c.rv.toNat)) ++ ([32] : List UInt8)) ++ (dgR c.beg)) ++ ([32] : List UInt8)) ++ (dgR c.wh)) ++ ([32] : List UInt8)) ++ (dgR c.en)) ++ ([32] : List UInt8))) (ys := [107, 101, 112, 116]) rfl rfl rfl (by (try simp only [List.length_append, List.length_cons, List.length_nil] at *); omega)) ?_)
      refine ⟨.inl (hS.pick [0]), ?_⟩
      refine K.DW.l 19 rfl (by kernel_rfl) rfl (K.OW.q rfl (K.QR.k (v := .string (K.sb (((((((((((((((((((dg c.th.toNat) ++ ([32] : List UInt8)) ++ (opNm.getD c.ok.toNat [])) ++ ([32] : List UInt8)) ++ (dg c.key.toNat)) ++ ([32] : List UInt8)) ++ (dg c.val.toNat)) ++ ([32] : List UInt8)) ++ (resNm.getD c.rk.toNat [])) ++ ([32] : List UInt8)) ++ (dg c.rv.toNat)) ++ ([32] : List UInt8)) ++ (dgR c.beg)) ++ ([32] : List UInt8)) ++ (dgR c.wh)) ++ ([32] : List UInt8)) ++ (dgR c.en)) ++ ([32] : List UInt8)) ++ ([107, 101, 112, 116] : List UInt8)))) (by kernel_rfl)) ?_)
      refine ⟨.inl (hS.pick [0]), ?_⟩
      refine K.DW.done (by kernel_rfl) ?_
      refine K.thn_normal ?_
      refine K.KW.ret ?_
      refine ⟨.inr rfl, rfl, (.string (K.sb (((((((((((((((((((dg c.th.toNat) ++ ([32] : List UInt8)) ++ (opNm.getD c.ok.toNat [])) ++ ([32] : List UInt8)) ++ (dg c.key.toNat)) ++ ([32] : List UInt8)) ++ (dg c.val.toNat)) ++ ([32] : List UInt8)) ++ (resNm.getD c.rk.toNat [])) ++ ([32] : List UInt8)) ++ (dg c.rv.toNat)) ++ ([32] : List UInt8)) ++ (dgR c.beg)) ++ ([32] : List UInt8)) ++ (dgR c.wh)) ++ ([32] : List UInt8)) ++ (dgR c.en)) ++ ([32] : List UInt8)) ++ ([107, 101, 112, 116] : List UInt8)))), K.res1 rfl rfl, [], ?_, hS.pick [1]⟩
      refine ⟨rfl, ?_⟩
      rw [lineR_is hmay hf]
      unfold endR
      simp [*]
  ·
    refine K.RW.nil ?_
    refine K.thn_normal ?_
    refine K.KW.ifT rfl ?_
    -- 3 :39
    refine K.KW.region ?_
    refine K.RW.qs [.string (K.sb [99, 114, 97, 115, 104, 101, 100])] (by kernel_rfl) ?_
    refine K.RW.nil ?_
    refine K.thn_normal ?_
    refine K.KW.seq ?_
    refine K.KW.seq ?_
    -- 4 :41
    refine K.KW.region ?_
    refine K.RW.qs [.pointer (some ⟨r_1, 10, none⟩)] (by kernel_rfl) ?_
    refine K.RW.q rfl rfl (K.QR.ld1 (v := .bool c.kp) rfl rfl (by kernel_rfl) ((hS.blk 0 rfl hg_3).cell rfl)) ?_
    cases hb_6 : c.kp
    ·
      refine K.RW.nil ?_
      refine K.thn_normal ?_
      refine K.KW.ifF rfl ?_
      refine K.KW.skip ?_
      refine K.thn_normal ?_
      refine K.KW.seq ?_
      -- 6 :44
      refine K.KW.gdrawn [0] hS (by kernel_rfl) ?_
      clear hS; intro w hS
      refine K.DW.q 0 (by kernel_rfl) rfl rfl (by kernel_rfl) rfl (fun w hS => K.QR.k (v := .pointer (some ⟨r_1, 0, none⟩)) (by kernel_rfl)) (hS.pick [0]) ?_
      refine K.DW.q 1 (by kernel_rfl) rfl rfl (by kernel_rfl) rfl (fun w hS => K.QR.ld1 (v := .int .i64 c.th) rfl rfl (by kernel_rfl) ((hS.blk 0 rfl hg_3).cell rfl)) (hS.pick [0]) ?_
      refine K.DW.q 4 (by kernel_rfl) rfl rfl (by kernel_rfl) rfl (fun w hS => K.QR.k (v := .pointer (some ⟨r_1, 1, none⟩)) (by kernel_rfl)) (hS.pick [0]) ?_
      refine K.DW.q 5 (by kernel_rfl) rfl rfl (by kernel_rfl) rfl (fun w hS => K.QR.k (v := .pointer (some ⟨r_1, 1, none⟩)) (by kernel_rfl)) (hS.pick [0]) ?_
      refine K.DW.q 6 (by kernel_rfl) rfl rfl (by kernel_rfl) rfl (fun w hS => K.QR.ld1 (v := .int .i64 c.ok) rfl rfl (by kernel_rfl) ((hS.blk 0 rfl hg_3).cell rfl)) (hS.pick [0]) ?_
      refine K.DW.q 10 (by kernel_rfl) rfl rfl (by kernel_rfl) rfl (fun w hS => K.QR.k (v := .pointer (some ⟨r_1, 1, none⟩)) (by kernel_rfl)) (hS.pick [0]) ?_
      refine K.DW.q 11 (by kernel_rfl) rfl rfl (by kernel_rfl) rfl (fun w hS => K.QR.k (v := .pointer (some ⟨r_1, 2, none⟩)) (by kernel_rfl)) (hS.pick [0]) ?_
      refine K.DW.q 12 (by kernel_rfl) rfl rfl (by kernel_rfl) rfl (fun w hS => K.QR.ld1 (v := .int .u32 c.key) rfl rfl (by kernel_rfl) ((hS.blk 0 rfl hg_3).cell rfl)) (hS.pick [0]) ?_
      refine K.DW.q 13 (by kernel_rfl) rfl rfl (by kernel_rfl) rfl (fun w hS => K.QR.nice (v := .int .i64 (IntKind.i64.wrap c.key)) (by kernel_rfl) (congrArg (Value.int .i64) (IntWalk.i64_in _ (by omega)))) (hS.pick [0]) ?_
      refine K.DW.q 17 (by kernel_rfl) rfl rfl (by kernel_rfl) rfl (fun w hS => K.QR.k (v := .pointer (some ⟨r_1, 1, none⟩)) (by kernel_rfl)) (hS.pick [0]) ?_
      refine K.DW.q 18 (by kernel_rfl) rfl rfl (by kernel_rfl) rfl (fun w hS => K.QR.k (v := .pointer (some ⟨r_1, 3, none⟩)) (by kernel_rfl)) (hS.pick [0]) ?_
      refine K.DW.q 19 (by kernel_rfl) rfl rfl (by kernel_rfl) rfl (fun w hS => K.QR.ld1 (v := .int .u32 c.val) rfl rfl (by kernel_rfl) ((hS.blk 0 rfl hg_3).cell rfl)) (hS.pick [0]) ?_
      refine K.DW.q 20 (by kernel_rfl) rfl rfl (by kernel_rfl) rfl (fun w hS => K.QR.nice (v := .int .i64 (IntKind.i64.wrap c.val)) (by kernel_rfl) (congrArg (Value.int .i64) (IntWalk.i64_in _ (by omega)))) (hS.pick [0]) ?_
      refine K.DW.l 2 rfl (by kernel_rfl) rfl (K.OW.gcall hS [] [0, 1] [.int .i64 c.th] (rdigitsI_ok _ c.th (by omega) (by omega)) ?_)
      clear hS; rintro _ _ w ⟨rfl, rfl⟩ hS
      replace hS : K.Sat w0 [g_2, fr] w := hS
      refine ⟨.inl (hS.pick [0]), ?_⟩
      refine K.DW.q 3 (by kernel_rfl) rfl rfl (by kernel_rfl) rfl (fun w hS => K.QR.sAdd (xs := (dg c.th.toNat)) (ys := [32]) rfl rfl rfl (by (try simp only [List.length_append, List.length_cons, List.length_nil] at *); omega)) (hS.pick [0]) ?_
      refine K.DW.l 7 rfl (by kernel_rfl) rfl (K.OW.gcall hS [] [0, 1] [.int .i64 c.ok] (rname_ok _ c.ok (by omega)) ?_)
      clear hS; rintro _ _ w ⟨rfl, rfl⟩ hS
      replace hS : K.Sat w0 [g_2, fr] w := hS
      refine ⟨.inl (hS.pick [0]), ?_⟩
      refine K.DW.q 8 (by kernel_rfl) rfl rfl (by kernel_rfl) rfl (fun w hS => K.QR.sAdd (xs := ((dg c.th.toNat) ++ ([32] : List UInt8))) (ys := (opNm.getD c.ok.toNat [])) rfl rfl rfl (by (try simp only [List.length_append, List.length_cons, List.length_nil] at *); omega)) (hS.pick [0]) ?_
      refine K.DW.q 9 (by kernel_rfl) rfl rfl (by kernel_rfl) rfl (fun w hS => K.QR.sAdd (xs := (((dg c.th.toNat) ++ ([32] : List UInt8)) ++ (opNm.getD c.ok.toNat []))) (ys := [32]) rfl rfl rfl (by (try simp only [List.length_append, List.length_cons, List.length_nil] at *); omega)) (hS.pick [0]) ?_
      refine K.DW.l 14 rfl (by kernel_rfl) rfl (K.OW.gcall hS [] [0, 1] [.int .i64 c.key] (rdigitsI_ok _ c.key (by omega) (by omega)) ?_)
      clear hS; rintro _ _ w ⟨rfl, rfl⟩ hS
      replace hS : K.Sat w0 [g_2, fr] w := hS
      refine ⟨.inl (hS.pick [0]), ?_⟩
      refine K.DW.q 15 (by kernel_rfl) rfl rfl (by kernel_rfl) rfl (fun w hS => K.QR.sAdd (xs := ((((dg c.th.toNat) ++ ([32] : List UInt8)) ++ (opNm.getD c.ok.toNat [])) ++ ([32] : List UInt8))) (ys := (dg c.key.toNat)) rfl rfl rfl (by (try simp only [List.length_append, List.length_cons, List.length_nil] at *); omega)) (hS.pick [0]) ?_
      refine K.DW.q 16 (by kernel_rfl) rfl rfl (by kernel_rfl) rfl (fun w hS => K.QR.sAdd (xs := (((((dg c.th.toNat) ++ ([32] : List UInt8)) ++ (opNm.getD c.ok.toNat [])) ++ ([32] : List UInt8)) ++ (dg c.key.toNat))) (ys := [32]) rfl rfl rfl (by (try simp only [List.length_append, List.length_cons, List.length_nil] at *); omega)) (hS.pick [0]) ?_
      refine K.DW.l 21 rfl (by kernel_rfl) rfl (K.OW.gcall hS [] [0, 1] [.int .i64 c.val] (rdigitsI_ok _ c.val (by omega) (by omega)) ?_)
      clear hS; rintro _ _ w ⟨rfl, rfl⟩ hS
      replace hS : K.Sat w0 [g_2, fr] w := hS
      refine ⟨.inl (hS.pick [0]), ?_⟩
      refine K.DW.l 22 rfl (by kernel_rfl) rfl (K.OW.q rfl (K.QR.sAdd (xs := ((((((dg c.th.toNat) ++ ([32] : List UInt8)) ++ (opNm.getD c.ok.toNat [])) ++ ([32] : List UInt8)) ++ (dg c.key.toNat)) ++ ([32] : List UInt8))) (ys := (dg c.val.toNat)) rfl rfl rfl (by (try simp only [List.length_append, List.length_cons, List.length_nil] at *); omega)) ?_)
      refine ⟨.inl (hS.pick [0]), ?_⟩
      refine K.DW.l 23 rfl (by kernel_rfl) rfl (K.OW.q rfl (K.QR.k (v := .string (K.sb (((((((dg c.th.toNat) ++ ([32] : List UInt8)) ++ (opNm.getD c.ok.toNat [])) ++ ([32] : List UInt8)) ++ (dg c.key.toNat)) ++ ([32] : List UInt8)) ++ (dg c.val.toNat)))) (by kernel_rfl)) ?_)
      refine ⟨.inl (hS.pick [0]), ?_⟩
      refine K.DW.done (by kernel_rfl) ?_
      refine K.thn_normal ?_
      refine K.KW.seq ?_
      -- 7 :45
      refine K.KW.gdrawn [0] hS (by kernel_rfl) ?_
      clear hS; intro w hS
      refine K.DW.q 0 (by kernel_rfl) rfl rfl (by kernel_rfl) rfl (fun w hS => K.QR.k (v := .string (K.sb (((((((dg c.th.toNat) ++ ([32] : List UInt8)) ++ (opNm.getD c.ok.toNat [])) ++ ([32] : List UInt8)) ++ (dg c.key.toNat)) ++ ([32] : List UInt8)) ++ (dg c.val.toNat)))) (by kernel_rfl)) (hS.pick [0]) ?_
      refine K.DW.q 1 (by kernel_rfl) rfl rfl (by kernel_rfl) rfl (fun w hS => K.QR.sAdd (xs := (((((((dg c.th.toNat) ++ ([32] : List UInt8)) ++ (opNm.getD c.ok.toNat [])) ++ ([32] : List UInt8)) ++ (dg c.key.toNat)) ++ ([32] : List UInt8)) ++ (dg c.val.toNat))) (ys := [32]) rfl rfl rfl (by (try simp only [List.length_append, List.length_cons, List.length_nil] at *); omega)) (hS.pick [0]) ?_
      refine K.DW.q 2 (by kernel_rfl) rfl rfl (by kernel_rfl) rfl (fun w hS => K.QR.k (v := .pointer (some ⟨r_1, 4, none⟩)) (by kernel_rfl)) (hS.pick [0]) ?_
      refine K.DW.q 3 (by kernel_rfl) rfl rfl (by kernel_rfl) rfl (fun w hS => K.QR.k (v := .pointer (some ⟨r_1, 4, none⟩)) (by kernel_rfl)) (hS.pick [0]) ?_
      refine K.DW.q 4 (by kernel_rfl) rfl rfl (by kernel_rfl) rfl (fun w hS => K.QR.ld1 (v := .int .i64 c.rk) rfl rfl (by kernel_rfl) ((hS.blk 0 rfl hg_3).cell rfl)) (hS.pick [0]) ?_
      refine K.DW.q 8 (by kernel_rfl) rfl rfl (by kernel_rfl) rfl (fun w hS => K.QR.k (v := .pointer (some ⟨r_1, 4, none⟩)) (by kernel_rfl)) (hS.pick [0]) ?_
      refine K.DW.q 9 (by kernel_rfl) rfl rfl (by kernel_rfl) rfl (fun w hS => K.QR.k (v := .pointer (some ⟨r_1, 5, none⟩)) (by kernel_rfl)) (hS.pick [0]) ?_
      refine K.DW.q 10 (by kernel_rfl) rfl rfl (by kernel_rfl) rfl (fun w hS => K.QR.ld1 (v := .int .u32 c.rv) rfl rfl (by kernel_rfl) ((hS.blk 0 rfl hg_3).cell rfl)) (hS.pick [0]) ?_
      refine K.DW.q 11 (by kernel_rfl) rfl rfl (by kernel_rfl) rfl (fun w hS => K.QR.nice (v := .int .i64 (IntKind.i64.wrap c.rv)) (by kernel_rfl) (congrArg (Value.int .i64) (IntWalk.i64_in _ (by omega)))) (hS.pick [0]) ?_
      refine K.DW.l 5 rfl (by kernel_rfl) rfl (K.OW.gcall hS [] [0, 1] [.int .i64 c.rk] (rresult_ok _ c.rk (by omega)) ?_)
      clear hS; rintro _ _ w ⟨rfl, rfl⟩ hS
      replace hS : K.Sat w0 [g_2, fr] w := hS
      refine ⟨.inl (hS.pick [0]), ?_⟩
      refine K.DW.q 6 (by kernel_rfl) rfl rfl (by kernel_rfl) rfl (fun w hS => K.QR.sAdd (xs := ((((((((dg c.th.toNat) ++ ([32] : List UInt8)) ++ (opNm.getD c.ok.toNat [])) ++ ([32] : List UInt8)) ++ (dg c.key.toNat)) ++ ([32] : List UInt8)) ++ (dg c.val.toNat)) ++ ([32] : List UInt8))) (ys := (resNm.getD c.rk.toNat [])) rfl rfl rfl (by (try simp only [List.length_append, List.length_cons, List.length_nil] at *); omega)) (hS.pick [0]) ?_
      refine K.DW.q 7 (by kernel_rfl) rfl rfl (by kernel_rfl) rfl (fun w hS => K.QR.sAdd (xs := (((((((((dg c.th.toNat) ++ ([32] : List UInt8)) ++ (opNm.getD c.ok.toNat [])) ++ ([32] : List UInt8)) ++ (dg c.key.toNat)) ++ ([32] : List UInt8)) ++ (dg c.val.toNat)) ++ ([32] : List UInt8)) ++ (resNm.getD c.rk.toNat []))) (ys := [32]) rfl rfl rfl (by (try simp only [List.length_append, List.length_cons, List.length_nil] at *); omega)) (hS.pick [0]) ?_
      refine K.DW.l 12 rfl (by kernel_rfl) rfl (K.OW.gcall hS [] [0, 1] [.int .i64 c.rv] (rdigitsI_ok _ c.rv (by omega) (by omega)) ?_)
      clear hS; rintro _ _ w ⟨rfl, rfl⟩ hS
      replace hS : K.Sat w0 [g_2, fr] w := hS
      refine ⟨.inl (hS.pick [0]), ?_⟩
      refine K.DW.l 13 rfl (by kernel_rfl) rfl (K.OW.q rfl (K.QR.sAdd (xs := ((((((((((dg c.th.toNat) ++ ([32] : List UInt8)) ++ (opNm.getD c.ok.toNat [])) ++ ([32] : List UInt8)) ++ (dg c.key.toNat)) ++ ([32] : List UInt8)) ++ (dg c.val.toNat)) ++ ([32] : List UInt8)) ++ (resNm.getD c.rk.toNat [])) ++ ([32] : List UInt8))) (ys := (dg c.rv.toNat)) rfl rfl rfl (by (try simp only [List.length_append, List.length_cons, List.length_nil] at *); omega)) ?_)
      refine ⟨.inl (hS.pick [0]), ?_⟩
      refine K.DW.l 14 rfl (by kernel_rfl) rfl (K.OW.q rfl (K.QR.k (v := .string (K.sb (((((((((((dg c.th.toNat) ++ ([32] : List UInt8)) ++ (opNm.getD c.ok.toNat [])) ++ ([32] : List UInt8)) ++ (dg c.key.toNat)) ++ ([32] : List UInt8)) ++ (dg c.val.toNat)) ++ ([32] : List UInt8)) ++ (resNm.getD c.rk.toNat [])) ++ ([32] : List UInt8)) ++ (dg c.rv.toNat)))) (by kernel_rfl)) ?_)
      refine ⟨.inl (hS.pick [0]), ?_⟩
      refine K.DW.done (by kernel_rfl) ?_
      refine K.thn_normal ?_
      refine K.KW.seq ?_
      -- 8 :46
      refine K.KW.gdrawn [0] hS (by kernel_rfl) ?_
      clear hS; intro w hS
      refine K.DW.q 0 (by kernel_rfl) rfl rfl (by kernel_rfl) rfl (fun w hS => K.QR.k (v := .string (K.sb (((((((((((dg c.th.toNat) ++ ([32] : List UInt8)) ++ (opNm.getD c.ok.toNat [])) ++ ([32] : List UInt8)) ++ (dg c.key.toNat)) ++ ([32] : List UInt8)) ++ (dg c.val.toNat)) ++ ([32] : List UInt8)) ++ (resNm.getD c.rk.toNat [])) ++ ([32] : List UInt8)) ++ (dg c.rv.toNat)))) (by kernel_rfl)) (hS.pick [0]) ?_
      refine K.DW.q 1 (by kernel_rfl) rfl rfl (by kernel_rfl) rfl (fun w hS => K.QR.sAdd (xs := (((((((((((dg c.th.toNat) ++ ([32] : List UInt8)) ++ (opNm.getD c.ok.toNat [])) ++ ([32] : List UInt8)) ++ (dg c.key.toNat)) ++ ([32] : List UInt8)) ++ (dg c.val.toNat)) ++ ([32] : List UInt8)) ++ (resNm.getD c.rk.toNat [])) ++ ([32] : List UInt8)) ++ (dg c.rv.toNat))) (ys := [32]) rfl rfl rfl (by (try simp only [List.length_append, List.length_cons, List.length_nil] at *); omega)) (hS.pick [0]) ?_
      refine K.DW.q 2 (by kernel_rfl) rfl rfl (by kernel_rfl) rfl (fun w hS => K.QR.k (v := .pointer (some ⟨r_1, 6, none⟩)) (by kernel_rfl)) (hS.pick [0]) ?_
      refine K.DW.q 3 (by kernel_rfl) rfl rfl (by kernel_rfl) rfl (fun w hS => K.QR.ld1 (v := .int .i64 c.beg) rfl rfl (by kernel_rfl) ((hS.blk 0 rfl hg_3).cell rfl)) (hS.pick [0]) ?_
      refine K.DW.q 7 (by kernel_rfl) rfl rfl (by kernel_rfl) rfl (fun w hS => K.QR.k (v := .pointer (some ⟨r_1, 8, none⟩)) (by kernel_rfl)) (hS.pick [0]) ?_
      refine K.DW.q 8 (by kernel_rfl) rfl rfl (by kernel_rfl) rfl (fun w hS => K.QR.ld1 (v := .int .i64 c.wh) rfl rfl (by kernel_rfl) ((hS.blk 0 rfl hg_3).cell rfl)) (hS.pick [0]) ?_
      refine K.DW.q 12 (by kernel_rfl) rfl rfl (by kernel_rfl) rfl (fun w hS => K.QR.k (v := .pointer (some ⟨r_1, 7, none⟩)) (by kernel_rfl)) (hS.pick [0]) ?_
      refine K.DW.q 13 (by kernel_rfl) rfl rfl (by kernel_rfl) rfl (fun w hS => K.QR.ld1 (v := .int .i64 c.en) rfl rfl (by kernel_rfl) ((hS.blk 0 rfl hg_3).cell rfl)) (hS.pick [0]) ?_
      refine K.DW.q 17 (by kernel_rfl) rfl rfl (by kernel_rfl) rfl (fun w hS => K.QR.k (v := .string (K.sb [99, 114, 97, 115, 104, 101, 100])) (by kernel_rfl)) (hS.pick [0]) ?_
      refine K.DW.l 4 rfl (by kernel_rfl) rfl (K.OW.gcall hS [] [0, 1] [.int .i64 c.beg] (rtimes_ok _ c.beg (by omega) (by omega)) ?_)
      clear hS; rintro _ _ w ⟨rfl, rfl⟩ hS
      replace hS : K.Sat w0 [g_2, fr] w := hS
      refine ⟨.inl (hS.pick [0]), ?_⟩
      refine K.DW.q 5 (by kernel_rfl) rfl rfl (by kernel_rfl) rfl (fun w hS => K.QR.sAdd (xs := ((((((((((((dg c.th.toNat) ++ ([32] : List UInt8)) ++ (opNm.getD c.ok.toNat [])) ++ ([32] : List UInt8)) ++ (dg c.key.toNat)) ++ ([32] : List UInt8)) ++ (dg c.val.toNat)) ++ ([32] : List UInt8)) ++ (resNm.getD c.rk.toNat [])) ++ ([32] : List UInt8)) ++ (dg c.rv.toNat)) ++ ([32] : List UInt8))) (ys := (dgR c.beg)) rfl rfl rfl (by (try simp only [List.length_append, List.length_cons, List.length_nil] at *); omega)) (hS.pick [0]) ?_
      refine K.DW.q 6 (by kernel_rfl) rfl rfl (by kernel_rfl) rfl (fun w hS => K.QR.sAdd (xs := (((((((((((((dg c.th.toNat) ++ ([32] : List UInt8)) ++ (opNm.getD c.ok.toNat [])) ++ ([32] : List UInt8)) ++ (dg c.key.toNat)) ++ ([32] : List UInt8)) ++ (dg c.val.toNat)) ++ ([32] : List UInt8)) ++ (resNm.getD c.rk.toNat [])) ++ ([32] : List UInt8)) ++ (dg c.rv.toNat)) ++ ([32] : List UInt8)) ++ (dgR c.beg))) (ys := [32]) rfl rfl rfl (by (try simp only [List.length_append, List.length_cons, List.length_nil] at *); omega)) (hS.pick [0]) ?_
      refine K.DW.l 9 rfl (by kernel_rfl) rfl (K.OW.gcall hS [] [0, 1] [.int .i64 c.wh] (rtimes_ok _ c.wh (by omega) (by omega)) ?_)
      clear hS; rintro _ _ w ⟨rfl, rfl⟩ hS
      replace hS : K.Sat w0 [g_2, fr] w := hS
      refine ⟨.inl (hS.pick [0]), ?_⟩
      refine K.DW.q 10 (by kernel_rfl) rfl rfl (by kernel_rfl) rfl (fun w hS => K.QR.sAdd (xs := ((((((((((((((dg c.th.toNat) ++ ([32] : List UInt8)) ++ (opNm.getD c.ok.toNat [])) ++ ([32] : List UInt8)) ++ (dg c.key.toNat)) ++ ([32] : List UInt8)) ++ (dg c.val.toNat)) ++ ([32] : List UInt8)) ++ (resNm.getD c.rk.toNat [])) ++ ([32] : List UInt8)) ++ (dg c.rv.toNat)) ++ ([32] : List UInt8)) ++ (dgR c.beg)) ++ ([32] : List UInt8))) (ys := (dgR c.wh)) rfl rfl rfl (by (try simp only [List.length_append, List.length_cons, List.length_nil] at *); omega)) (hS.pick [0]) ?_
      refine K.DW.q 11 (by kernel_rfl) rfl rfl (by kernel_rfl) rfl (fun w hS => K.QR.sAdd (xs := (((((((((((((((dg c.th.toNat) ++ ([32] : List UInt8)) ++ (opNm.getD c.ok.toNat [])) ++ ([32] : List UInt8)) ++ (dg c.key.toNat)) ++ ([32] : List UInt8)) ++ (dg c.val.toNat)) ++ ([32] : List UInt8)) ++ (resNm.getD c.rk.toNat [])) ++ ([32] : List UInt8)) ++ (dg c.rv.toNat)) ++ ([32] : List UInt8)) ++ (dgR c.beg)) ++ ([32] : List UInt8)) ++ (dgR c.wh))) (ys := [32]) rfl rfl rfl (by (try simp only [List.length_append, List.length_cons, List.length_nil] at *); omega)) (hS.pick [0]) ?_
      refine K.DW.l 14 rfl (by kernel_rfl) rfl (K.OW.gcall hS [] [0, 1] [.int .i64 c.en] (rtimes_ok _ c.en (by omega) (by omega)) ?_)
      clear hS; rintro _ _ w ⟨rfl, rfl⟩ hS
      replace hS : K.Sat w0 [g_2, fr] w := hS
      refine ⟨.inl (hS.pick [0]), ?_⟩
      refine K.DW.l 15 rfl (by kernel_rfl) rfl (K.OW.q rfl (K.QR.sAdd (xs := ((((((((((((((((dg c.th.toNat) ++ ([32] : List UInt8)) ++ (opNm.getD c.ok.toNat [])) ++ ([32] : List UInt8)) ++ (dg c.key.toNat)) ++ ([32] : List UInt8)) ++ (dg c.val.toNat)) ++ ([32] : List UInt8)) ++ (resNm.getD c.rk.toNat [])) ++ ([32] : List UInt8)) ++ (dg c.rv.toNat)) ++ ([32] : List UInt8)) ++ (dgR c.beg)) ++ ([32] : List UInt8)) ++ (dgR c.wh)) ++ ([32] : List UInt8))) (ys := (dgR c.en)) rfl rfl rfl (by (try simp only [List.length_append, List.length_cons, List.length_nil] at *); omega)) ?_)
      refine ⟨.inl (hS.pick [0]), ?_⟩
      refine K.DW.l 16 rfl (by kernel_rfl) rfl (K.OW.q rfl (K.QR.sAdd (xs := (((((((((((((((((dg c.th.toNat) ++ ([32] : List UInt8)) ++ (opNm.getD c.ok.toNat [])) ++ ([32] : List UInt8)) ++ (dg c.key.toNat)) ++ ([32] : List UInt8)) ++ (dg c.val.toNat)) ++ ([32] : List UInt8)) ++ (resNm.getD c.rk.toNat [])) ++ ([32] : List UInt8)) ++ (dg c.rv.toNat)) ++ ([32] : List UInt8)) ++ (dgR c.beg)) ++ ([32] : List UInt8)) ++ (dgR c.wh)) ++ ([32] : List UInt8)) ++ (dgR c.en))) (ys := [32]) rfl rfl rfl (by (try simp only [List.length_append, List.length_cons, List.length_nil] at *); omega)) ?_)
      refine ⟨.inl (hS.pick [0]), ?_⟩
      refine K.DW.l 18 rfl (by kernel_rfl) rfl (K.OW.q rfl (K.QR.sAdd (xs := ((((((((((((((((((dg c.th.toNat) ++ ([32] : List UInt8)) ++ (opNm.getD c.ok.toNat [])) ++ ([32] : List UInt8)) ++ (dg c.key.toNat)) ++ ([32] : List UInt8)) ++ (dg c.val.toNat)) ++ ([32] : List UInt8)) ++ (resNm.getD c.rk.toNat [])) ++ ([32] : List UInt8)) ++ (dg c.rv.toNat)) ++ ([32] : List UInt8)) ++ (dgR c.beg)) ++ ([32] : List UInt8)) ++ (dgR c.wh)) ++ ([32] : List UInt8)) ++ (dgR c.en)) ++ ([32] : List UInt8))) (ys := [99, 114, 97, 115, 104, 101, 100]) rfl rfl rfl (by (try simp only [List.length_append, List.length_cons, List.length_nil] at *); omega)) ?_)
      refine ⟨.inl (hS.pick [0]), ?_⟩
      refine K.DW.l 19 rfl (by kernel_rfl) rfl (K.OW.q rfl (K.QR.k (v := .string (K.sb (((((((((((((((((((dg c.th.toNat) ++ ([32] : List UInt8)) ++ (opNm.getD c.ok.toNat [])) ++ ([32] : List UInt8)) ++ (dg c.key.toNat)) ++ ([32] : List UInt8)) ++ (dg c.val.toNat)) ++ ([32] : List UInt8)) ++ (resNm.getD c.rk.toNat [])) ++ ([32] : List UInt8)) ++ (dg c.rv.toNat)) ++ ([32] : List UInt8)) ++ (dgR c.beg)) ++ ([32] : List UInt8)) ++ (dgR c.wh)) ++ ([32] : List UInt8)) ++ (dgR c.en)) ++ ([32] : List UInt8)) ++ ([99, 114, 97, 115, 104, 101, 100] : List UInt8)))) (by kernel_rfl)) ?_)
      refine ⟨.inl (hS.pick [0]), ?_⟩
      refine K.DW.done (by kernel_rfl) ?_
      refine K.thn_normal ?_
      refine K.KW.ret ?_
      refine ⟨.inr rfl, rfl, (.string (K.sb (((((((((((((((((((dg c.th.toNat) ++ ([32] : List UInt8)) ++ (opNm.getD c.ok.toNat [])) ++ ([32] : List UInt8)) ++ (dg c.key.toNat)) ++ ([32] : List UInt8)) ++ (dg c.val.toNat)) ++ ([32] : List UInt8)) ++ (resNm.getD c.rk.toNat [])) ++ ([32] : List UInt8)) ++ (dg c.rv.toNat)) ++ ([32] : List UInt8)) ++ (dgR c.beg)) ++ ([32] : List UInt8)) ++ (dgR c.wh)) ++ ([32] : List UInt8)) ++ (dgR c.en)) ++ ([32] : List UInt8)) ++ ([99, 114, 97, 115, 104, 101, 100] : List UInt8)))), K.res1 rfl rfl, [], ?_, hS.pick [1]⟩
      refine ⟨rfl, ?_⟩
      rw [lineR_is hmay hf]
      unfold endR
      simp [*]
    ·
      refine K.RW.nil ?_
      refine K.thn_normal ?_
      refine K.KW.ifT rfl ?_
      -- 5 :42
      refine K.KW.region ?_
      refine K.RW.qs [.string (K.sb [107, 101, 112, 116])] (by kernel_rfl) ?_
      refine K.RW.nil ?_
      refine K.thn_normal ?_
      refine K.KW.seq ?_
      -- 6 :44
      refine K.KW.gdrawn [0] hS (by kernel_rfl) ?_
      clear hS; intro w hS
      refine K.DW.q 0 (by kernel_rfl) rfl rfl (by kernel_rfl) rfl (fun w hS => K.QR.k (v := .pointer (some ⟨r_1, 0, none⟩)) (by kernel_rfl)) (hS.pick [0]) ?_
      refine K.DW.q 1 (by kernel_rfl) rfl rfl (by kernel_rfl) rfl (fun w hS => K.QR.ld1 (v := .int .i64 c.th) rfl rfl (by kernel_rfl) ((hS.blk 0 rfl hg_3).cell rfl)) (hS.pick [0]) ?_
      refine K.DW.q 4 (by kernel_rfl) rfl rfl (by kernel_rfl) rfl (fun w hS => K.QR.k (v := .pointer (some ⟨r_1, 1, none⟩)) (by kernel_rfl)) (hS.pick [0]) ?_
      refine K.DW.q 5 (by kernel_rfl) rfl rfl (by kernel_rfl) rfl (fun w hS => K.QR.k (v := .pointer (some ⟨r_1, 1, none⟩)) (by kernel_rfl)) (hS.pick [0]) ?_
      refine K.DW.q 6 (by kernel_rfl) rfl rfl (by kernel_rfl) rfl (fun w hS => K.QR.ld1 (v := .int .i64 c.ok) rfl rfl (by kernel_rfl) ((hS.blk 0 rfl hg_3).cell rfl)) (hS.pick [0]) ?_
      refine K.DW.q 10 (by kernel_rfl) rfl rfl (by kernel_rfl) rfl (fun w hS => K.QR.k (v := .pointer (some ⟨r_1, 1, none⟩)) (by kernel_rfl)) (hS.pick [0]) ?_
      refine K.DW.q 11 (by kernel_rfl) rfl rfl (by kernel_rfl) rfl (fun w hS => K.QR.k (v := .pointer (some ⟨r_1, 2, none⟩)) (by kernel_rfl)) (hS.pick [0]) ?_
      refine K.DW.q 12 (by kernel_rfl) rfl rfl (by kernel_rfl) rfl (fun w hS => K.QR.ld1 (v := .int .u32 c.key) rfl rfl (by kernel_rfl) ((hS.blk 0 rfl hg_3).cell rfl)) (hS.pick [0]) ?_
      refine K.DW.q 13 (by kernel_rfl) rfl rfl (by kernel_rfl) rfl (fun w hS => K.QR.nice (v := .int .i64 (IntKind.i64.wrap c.key)) (by kernel_rfl) (congrArg (Value.int .i64) (IntWalk.i64_in _ (by omega)))) (hS.pick [0]) ?_
      refine K.DW.q 17 (by kernel_rfl) rfl rfl (by kernel_rfl) rfl (fun w hS => K.QR.k (v := .pointer (some ⟨r_1, 1, none⟩)) (by kernel_rfl)) (hS.pick [0]) ?_
      refine K.DW.q 18 (by kernel_rfl) rfl rfl (by kernel_rfl) rfl (fun w hS => K.QR.k (v := .pointer (some ⟨r_1, 3, none⟩)) (by kernel_rfl)) (hS.pick [0]) ?_
      refine K.DW.q 19 (by kernel_rfl) rfl rfl (by kernel_rfl) rfl (fun w hS => K.QR.ld1 (v := .int .u32 c.val) rfl rfl (by kernel_rfl) ((hS.blk 0 rfl hg_3).cell rfl)) (hS.pick [0]) ?_
      refine K.DW.q 20 (by kernel_rfl) rfl rfl (by kernel_rfl) rfl (fun w hS => K.QR.nice (v := .int .i64 (IntKind.i64.wrap c.val)) (by kernel_rfl) (congrArg (Value.int .i64) (IntWalk.i64_in _ (by omega)))) (hS.pick [0]) ?_
      refine K.DW.l 2 rfl (by kernel_rfl) rfl (K.OW.gcall hS [] [0, 1] [.int .i64 c.th] (rdigitsI_ok _ c.th (by omega) (by omega)) ?_)
      clear hS; rintro _ _ w ⟨rfl, rfl⟩ hS
      replace hS : K.Sat w0 [g_2, fr] w := hS
      refine ⟨.inl (hS.pick [0]), ?_⟩
      refine K.DW.q 3 (by kernel_rfl) rfl rfl (by kernel_rfl) rfl (fun w hS => K.QR.sAdd (xs := (dg c.th.toNat)) (ys := [32]) rfl rfl rfl (by (try simp only [List.length_append, List.length_cons, List.length_nil] at *); omega)) (hS.pick [0]) ?_
      refine K.DW.l 7 rfl (by kernel_rfl) rfl (K.OW.gcall hS [] [0, 1] [.int .i64 c.ok] (rname_ok _ c.ok (by omega)) ?_)
      clear hS; rintro _ _ w ⟨rfl, rfl⟩ hS
      replace hS : K.Sat w0 [g_2, fr] w := hS
      refine ⟨.inl (hS.pick [0]), ?_⟩
      refine K.DW.q 8 (by kernel_rfl) rfl rfl (by kernel_rfl) rfl (fun w hS => K.QR.sAdd (xs := ((dg c.th.toNat) ++ ([32] : List UInt8))) (ys := (opNm.getD c.ok.toNat [])) rfl rfl rfl (by (try simp only [List.length_append, List.length_cons, List.length_nil] at *); omega)) (hS.pick [0]) ?_
      refine K.DW.q 9 (by kernel_rfl) rfl rfl (by kernel_rfl) rfl (fun w hS => K.QR.sAdd (xs := (((dg c.th.toNat) ++ ([32] : List UInt8)) ++ (opNm.getD c.ok.toNat []))) (ys := [32]) rfl rfl rfl (by (try simp only [List.length_append, List.length_cons, List.length_nil] at *); omega)) (hS.pick [0]) ?_
      refine K.DW.l 14 rfl (by kernel_rfl) rfl (K.OW.gcall hS [] [0, 1] [.int .i64 c.key] (rdigitsI_ok _ c.key (by omega) (by omega)) ?_)
      clear hS; rintro _ _ w ⟨rfl, rfl⟩ hS
      replace hS : K.Sat w0 [g_2, fr] w := hS
      refine ⟨.inl (hS.pick [0]), ?_⟩
      refine K.DW.q 15 (by kernel_rfl) rfl rfl (by kernel_rfl) rfl (fun w hS => K.QR.sAdd (xs := ((((dg c.th.toNat) ++ ([32] : List UInt8)) ++ (opNm.getD c.ok.toNat [])) ++ ([32] : List UInt8))) (ys := (dg c.key.toNat)) rfl rfl rfl (by (try simp only [List.length_append, List.length_cons, List.length_nil] at *); omega)) (hS.pick [0]) ?_
      refine K.DW.q 16 (by kernel_rfl) rfl rfl (by kernel_rfl) rfl (fun w hS => K.QR.sAdd (xs := (((((dg c.th.toNat) ++ ([32] : List UInt8)) ++ (opNm.getD c.ok.toNat [])) ++ ([32] : List UInt8)) ++ (dg c.key.toNat))) (ys := [32]) rfl rfl rfl (by (try simp only [List.length_append, List.length_cons, List.length_nil] at *); omega)) (hS.pick [0]) ?_
      refine K.DW.l 21 rfl (by kernel_rfl) rfl (K.OW.gcall hS [] [0, 1] [.int .i64 c.val] (rdigitsI_ok _ c.val (by omega) (by omega)) ?_)
      clear hS; rintro _ _ w ⟨rfl, rfl⟩ hS
      replace hS : K.Sat w0 [g_2, fr] w := hS
      refine ⟨.inl (hS.pick [0]), ?_⟩
      refine K.DW.l 22 rfl (by kernel_rfl) rfl (K.OW.q rfl (K.QR.sAdd (xs := ((((((dg c.th.toNat) ++ ([32] : List UInt8)) ++ (opNm.getD c.ok.toNat [])) ++ ([32] : List UInt8)) ++ (dg c.key.toNat)) ++ ([32] : List UInt8))) (ys := (dg c.val.toNat)) rfl rfl rfl (by (try simp only [List.length_append, List.length_cons, List.length_nil] at *); omega)) ?_)
      refine ⟨.inl (hS.pick [0]), ?_⟩
      refine K.DW.l 23 rfl (by kernel_rfl) rfl (K.OW.q rfl (K.QR.k (v := .string (K.sb (((((((dg c.th.toNat) ++ ([32] : List UInt8)) ++ (opNm.getD c.ok.toNat [])) ++ ([32] : List UInt8)) ++ (dg c.key.toNat)) ++ ([32] : List UInt8)) ++ (dg c.val.toNat)))) (by kernel_rfl)) ?_)
      refine ⟨.inl (hS.pick [0]), ?_⟩
      refine K.DW.done (by kernel_rfl) ?_
      refine K.thn_normal ?_
      refine K.KW.seq ?_
      -- 7 :45
      refine K.KW.gdrawn [0] hS (by kernel_rfl) ?_
      clear hS; intro w hS
      refine K.DW.q 0 (by kernel_rfl) rfl rfl (by kernel_rfl) rfl (fun w hS => K.QR.k (v := .string (K.sb (((((((dg c.th.toNat) ++ ([32] : List UInt8)) ++ (opNm.getD c.ok.toNat [])) ++ ([32] : List UInt8)) ++ (dg c.key.toNat)) ++ ([32] : List UInt8)) ++ (dg c.val.toNat)))) (by kernel_rfl)) (hS.pick [0]) ?_
      refine K.DW.q 1 (by kernel_rfl) rfl rfl (by kernel_rfl) rfl (fun w hS => K.QR.sAdd (xs := (((((((dg c.th.toNat) ++ ([32] : List UInt8)) ++ (opNm.getD c.ok.toNat [])) ++ ([32] : List UInt8)) ++ (dg c.key.toNat)) ++ ([32] : List UInt8)) ++ (dg c.val.toNat))) (ys := [32]) rfl rfl rfl (by (try simp only [List.length_append, List.length_cons, List.length_nil] at *); omega)) (hS.pick [0]) ?_
      refine K.DW.q 2 (by kernel_rfl) rfl rfl (by kernel_rfl) rfl (fun w hS => K.QR.k (v := .pointer (some ⟨r_1, 4, none⟩)) (by kernel_rfl)) (hS.pick [0]) ?_
      refine K.DW.q 3 (by kernel_rfl) rfl rfl (by kernel_rfl) rfl (fun w hS => K.QR.k (v := .pointer (some ⟨r_1, 4, none⟩)) (by kernel_rfl)) (hS.pick [0]) ?_
      refine K.DW.q 4 (by kernel_rfl) rfl rfl (by kernel_rfl) rfl (fun w hS => K.QR.ld1 (v := .int .i64 c.rk) rfl rfl (by kernel_rfl) ((hS.blk 0 rfl hg_3).cell rfl)) (hS.pick [0]) ?_
      refine K.DW.q 8 (by kernel_rfl) rfl rfl (by kernel_rfl) rfl (fun w hS => K.QR.k (v := .pointer (some ⟨r_1, 4, none⟩)) (by kernel_rfl)) (hS.pick [0]) ?_
      refine K.DW.q 9 (by kernel_rfl) rfl rfl (by kernel_rfl) rfl (fun w hS => K.QR.k (v := .pointer (some ⟨r_1, 5, none⟩)) (by kernel_rfl)) (hS.pick [0]) ?_
      refine K.DW.q 10 (by kernel_rfl) rfl rfl (by kernel_rfl) rfl (fun w hS => K.QR.ld1 (v := .int .u32 c.rv) rfl rfl (by kernel_rfl) ((hS.blk 0 rfl hg_3).cell rfl)) (hS.pick [0]) ?_
      refine K.DW.q 11 (by kernel_rfl) rfl rfl (by kernel_rfl) rfl (fun w hS => K.QR.nice (v := .int .i64 (IntKind.i64.wrap c.rv)) (by kernel_rfl) (congrArg (Value.int .i64) (IntWalk.i64_in _ (by omega)))) (hS.pick [0]) ?_
      refine K.DW.l 5 rfl (by kernel_rfl) rfl (K.OW.gcall hS [] [0, 1] [.int .i64 c.rk] (rresult_ok _ c.rk (by omega)) ?_)
      clear hS; rintro _ _ w ⟨rfl, rfl⟩ hS
      replace hS : K.Sat w0 [g_2, fr] w := hS
      refine ⟨.inl (hS.pick [0]), ?_⟩
      refine K.DW.q 6 (by kernel_rfl) rfl rfl (by kernel_rfl) rfl (fun w hS => K.QR.sAdd (xs := ((((((((dg c.th.toNat) ++ ([32] : List UInt8)) ++ (opNm.getD c.ok.toNat [])) ++ ([32] : List UInt8)) ++ (dg c.key.toNat)) ++ ([32] : List UInt8)) ++ (dg c.val.toNat)) ++ ([32] : List UInt8))) (ys := (resNm.getD c.rk.toNat [])) rfl rfl rfl (by (try simp only [List.length_append, List.length_cons, List.length_nil] at *); omega)) (hS.pick [0]) ?_
      refine K.DW.q 7 (by kernel_rfl) rfl rfl (by kernel_rfl) rfl (fun w hS => K.QR.sAdd (xs := (((((((((dg c.th.toNat) ++ ([32] : List UInt8)) ++ (opNm.getD c.ok.toNat [])) ++ ([32] : List UInt8)) ++ (dg c.key.toNat)) ++ ([32] : List UInt8)) ++ (dg c.val.toNat)) ++ ([32] : List UInt8)) ++ (resNm.getD c.rk.toNat []))) (ys := [32]) rfl rfl rfl (by (try simp only [List.length_append, List.length_cons, List.length_nil] at *); omega)) (hS.pick [0]) ?_
      refine K.DW.l 12 rfl (by kernel_rfl) rfl (K.OW.gcall hS [] [0, 1] [.int .i64 c.rv] (rdigitsI_ok _ c.rv (by omega) (by omega)) ?_)
      clear hS; rintro _ _ w ⟨rfl, rfl⟩ hS
      replace hS : K.Sat w0 [g_2, fr] w := hS
      refine ⟨.inl (hS.pick [0]), ?_⟩
      refine K.DW.l 13 rfl (by kernel_rfl) rfl (K.OW.q rfl (K.QR.sAdd (xs := ((((((((((dg c.th.toNat) ++ ([32] : List UInt8)) ++ (opNm.getD c.ok.toNat [])) ++ ([32] : List UInt8)) ++ (dg c.key.toNat)) ++ ([32] : List UInt8)) ++ (dg c.val.toNat)) ++ ([32] : List UInt8)) ++ (resNm.getD c.rk.toNat [])) ++ ([32] : List UInt8))) (ys := (dg c.rv.toNat)) rfl rfl rfl (by (try simp only [List.length_append, List.length_cons, List.length_nil] at *); omega)) ?_)
      refine ⟨.inl (hS.pick [0]), ?_⟩
      refine K.DW.l 14 rfl (by kernel_rfl) rfl (K.OW.q rfl (K.QR.k (v := .string (K.sb (((((((((((dg c.th.toNat) ++ ([32] : List UInt8)) ++ (opNm.getD c.ok.toNat [])) ++ ([32] : List UInt8)) ++ (dg c.key.toNat)) ++ ([32] : List UInt8)) ++ (dg c.val.toNat)) ++ ([32] : List UInt8)) ++ (resNm.getD c.rk.toNat [])) ++ ([32] : List UInt8)) ++ (dg c.rv.toNat)))) (by kernel_rfl)) ?_)
      refine ⟨.inl (hS.pick [0]), ?_⟩
      refine K.DW.done (by kernel_rfl) ?_
      refine K.thn_normal ?_
      refine K.KW.seq ?_
      -- 8 :46
      refine K.KW.gdrawn [0] hS (by kernel_rfl) ?_
      clear hS; intro w hS
      refine K.DW.q 0 (by kernel_rfl) rfl rfl (by kernel_rfl) rfl (fun w hS => K.QR.k (v := .string (K.sb (((((((((((dg c.th.toNat) ++ ([32] : List UInt8)) ++ (opNm.getD c.ok.toNat [])) ++ ([32] : List UInt8)) ++ (dg c.key.toNat)) ++ ([32] : List UInt8)) ++ (dg c.val.toNat)) ++ ([32] : List UInt8)) ++ (resNm.getD c.rk.toNat [])) ++ ([32] : List UInt8)) ++ (dg c.rv.toNat)))) (by kernel_rfl)) (hS.pick [0]) ?_
      refine K.DW.q 1 (by kernel_rfl) rfl rfl (by kernel_rfl) rfl (fun w hS => K.QR.sAdd (xs := (((((((((((dg c.th.toNat) ++ ([32] : List UInt8)) ++ (opNm.getD c.ok.toNat [])) ++ ([32] : List UInt8)) ++ (dg c.key.toNat)) ++ ([32] : List UInt8)) ++ (dg c.val.toNat)) ++ ([32] : List UInt8)) ++ (resNm.getD c.rk.toNat [])) ++ ([32] : List UInt8)) ++ (dg c.rv.toNat))) (ys := [32]) rfl rfl rfl (by (try simp only [List.length_append, List.length_cons, List.length_nil] at *); omega)) (hS.pick [0]) ?_
      refine K.DW.q 2 (by kernel_rfl) rfl rfl (by kernel_rfl) rfl (fun w hS => K.QR.k (v := .pointer (some ⟨r_1, 6, none⟩)) (by kernel_rfl)) (hS.pick [0]) ?_
      refine K.DW.q 3 (by kernel_rfl) rfl rfl (by kernel_rfl) rfl (fun w hS => K.QR.ld1 (v := .int .i64 c.beg) rfl rfl (by kernel_rfl) ((hS.blk 0 rfl hg_3).cell rfl)) (hS.pick [0]) ?_
      refine K.DW.q 7 (by kernel_rfl) rfl rfl (by kernel_rfl) rfl (fun w hS => K.QR.k (v := .pointer (some ⟨r_1, 8, none⟩)) (by kernel_rfl)) (hS.pick [0]) ?_
      refine K.DW.q 8 (by kernel_rfl) rfl rfl (by kernel_rfl) rfl (fun w hS => K.QR.ld1 (v := .int .i64 c.wh) rfl rfl (by kernel_rfl) ((hS.blk 0 rfl hg_3).cell rfl)) (hS.pick [0]) ?_
      refine K.DW.q 12 (by kernel_rfl) rfl rfl (by kernel_rfl) rfl (fun w hS => K.QR.k (v := .pointer (some ⟨r_1, 7, none⟩)) (by kernel_rfl)) (hS.pick [0]) ?_
      refine K.DW.q 13 (by kernel_rfl) rfl rfl (by kernel_rfl) rfl (fun w hS => K.QR.ld1 (v := .int .i64 c.en) rfl rfl (by kernel_rfl) ((hS.blk 0 rfl hg_3).cell rfl)) (hS.pick [0]) ?_
      refine K.DW.q 17 (by kernel_rfl) rfl rfl (by kernel_rfl) rfl (fun w hS => K.QR.k (v := .string (K.sb [107, 101, 112, 116])) (by kernel_rfl)) (hS.pick [0]) ?_
      refine K.DW.l 4 rfl (by kernel_rfl) rfl (K.OW.gcall hS [] [0, 1] [.int .i64 c.beg] (rtimes_ok _ c.beg (by omega) (by omega)) ?_)
      clear hS; rintro _ _ w ⟨rfl, rfl⟩ hS
      replace hS : K.Sat w0 [g_2, fr] w := hS
      refine ⟨.inl (hS.pick [0]), ?_⟩
      refine K.DW.q 5 (by kernel_rfl) rfl rfl (by kernel_rfl) rfl (fun w hS => K.QR.sAdd (xs := ((((((((((((dg c.th.toNat) ++ ([32] : List UInt8)) ++ (opNm.getD c.ok.toNat [])) ++ ([32] : List UInt8)) ++ (dg c.key.toNat)) ++ ([32] : List UInt8)) ++ (dg c.val.toNat)) ++ ([32] : List UInt8)) ++ (resNm.getD c.rk.toNat [])) ++ ([32] : List UInt8)) ++ (dg c.rv.toNat)) ++ ([32] : List UInt8))) (ys := (dgR c.beg)) rfl rfl rfl (by (try simp only [List.length_append, List.length_cons, List.length_nil] at *); omega)) (hS.pick [0]) ?_
      refine K.DW.q 6 (by kernel_rfl) rfl rfl (by kernel_rfl) rfl (fun w hS => K.QR.sAdd (xs := (((((((((((((dg c.th.toNat) ++ ([32] : List UInt8)) ++ (opNm.getD c.ok.toNat [])) ++ ([32] : List UInt8)) ++ (dg c.key.toNat)) ++ ([32] : List UInt8)) ++ (dg c.val.toNat)) ++ ([32] : List UInt8)) ++ (resNm.getD c.rk.toNat [])) ++ ([32] : List UInt8)) ++ (dg c.rv.toNat)) ++ ([32] : List UInt8)) ++ (dgR c.beg))) (ys := [32]) rfl rfl rfl (by (try simp only [List.length_append, List.length_cons, List.length_nil] at *); omega)) (hS.pick [0]) ?_
      refine K.DW.l 9 rfl (by kernel_rfl) rfl (K.OW.gcall hS [] [0, 1] [.int .i64 c.wh] (rtimes_ok _ c.wh (by omega) (by omega)) ?_)
      clear hS; rintro _ _ w ⟨rfl, rfl⟩ hS
      replace hS : K.Sat w0 [g_2, fr] w := hS
      refine ⟨.inl (hS.pick [0]), ?_⟩
      refine K.DW.q 10 (by kernel_rfl) rfl rfl (by kernel_rfl) rfl (fun w hS => K.QR.sAdd (xs := ((((((((((((((dg c.th.toNat) ++ ([32] : List UInt8)) ++ (opNm.getD c.ok.toNat [])) ++ ([32] : List UInt8)) ++ (dg c.key.toNat)) ++ ([32] : List UInt8)) ++ (dg c.val.toNat)) ++ ([32] : List UInt8)) ++ (resNm.getD c.rk.toNat [])) ++ ([32] : List UInt8)) ++ (dg c.rv.toNat)) ++ ([32] : List UInt8)) ++ (dgR c.beg)) ++ ([32] : List UInt8))) (ys := (dgR c.wh)) rfl rfl rfl (by (try simp only [List.length_append, List.length_cons, List.length_nil] at *); omega)) (hS.pick [0]) ?_
      refine K.DW.q 11 (by kernel_rfl) rfl rfl (by kernel_rfl) rfl (fun w hS => K.QR.sAdd (xs := (((((((((((((((dg c.th.toNat) ++ ([32] : List UInt8)) ++ (opNm.getD c.ok.toNat [])) ++ ([32] : List UInt8)) ++ (dg c.key.toNat)) ++ ([32] : List UInt8)) ++ (dg c.val.toNat)) ++ ([32] : List UInt8)) ++ (resNm.getD c.rk.toNat [])) ++ ([32] : List UInt8)) ++ (dg c.rv.toNat)) ++ ([32] : List UInt8)) ++ (dgR c.beg)) ++ ([32] : List UInt8)) ++ (dgR c.wh))) (ys := [32]) rfl rfl rfl (by (try simp only [List.length_append, List.length_cons, List.length_nil] at *); omega)) (hS.pick [0]) ?_
      refine K.DW.l 14 rfl (by kernel_rfl) rfl (K.OW.gcall hS [] [0, 1] [.int .i64 c.en] (rtimes_ok _ c.en (by omega) (by omega)) ?_)
      clear hS; rintro _ _ w ⟨rfl, rfl⟩ hS
      replace hS : K.Sat w0 [g_2, fr] w := hS
      refine ⟨.inl (hS.pick [0]), ?_⟩
      refine K.DW.l 15 rfl (by kernel_rfl) rfl (K.OW.q rfl (K.QR.sAdd (xs := ((((((((((((((((dg c.th.toNat) ++ ([32] : List UInt8)) ++ (opNm.getD c.ok.toNat [])) ++ ([32] : List UInt8)) ++ (dg c.key.toNat)) ++ ([32] : List UInt8)) ++ (dg c.val.toNat)) ++ ([32] : List UInt8)) ++ (resNm.getD c.rk.toNat [])) ++ ([32] : List UInt8)) ++ (dg c.rv.toNat)) ++ ([32] : List UInt8)) ++ (dgR c.beg)) ++ ([32] : List UInt8)) ++ (dgR c.wh)) ++ ([32] : List UInt8))) (ys := (dgR c.en)) rfl rfl rfl (by (try simp only [List.length_append, List.length_cons, List.length_nil] at *); omega)) ?_)
      refine ⟨.inl (hS.pick [0]), ?_⟩
      refine K.DW.l 16 rfl (by kernel_rfl) rfl (K.OW.q rfl (K.QR.sAdd (xs := (((((((((((((((((dg c.th.toNat) ++ ([32] : List UInt8)) ++ (opNm.getD c.ok.toNat [])) ++ ([32] : List UInt8)) ++ (dg c.key.toNat)) ++ ([32] : List UInt8)) ++ (dg c.val.toNat)) ++ ([32] : List UInt8)) ++ (resNm.getD c.rk.toNat [])) ++ ([32] : List UInt8)) ++ (dg c.rv.toNat)) ++ ([32] : List UInt8)) ++ (dgR c.beg)) ++ ([32] : List UInt8)) ++ (dgR c.wh)) ++ ([32] : List UInt8)) ++ (dgR c.en))) (ys := [32]) rfl rfl rfl (by (try simp only [List.length_append, List.length_cons, List.length_nil] at *); omega)) ?_)
      refine ⟨.inl (hS.pick [0]), ?_⟩
      refine K.DW.l 18 rfl (by kernel_rfl) rfl (K.OW.q rfl (K.QR.sAdd (xs := ((((((((((((((((((dg c.th.toNat) ++ ([32] : List UInt8)) ++ (opNm.getD c.ok.toNat [])) ++ ([32] : List UInt8)) ++ (dg c.key.toNat)) ++ ([32] : List UInt8)) ++ (dg c.val.toNat)) ++ ([32] : List UInt8)) ++ (resNm.getD c.rk.toNat [])) ++ ([32] : List UInt8)) ++ (dg c.rv.toNat)) ++ ([32] : List UInt8)) ++ (dgR c.beg)) ++ ([32] : List UInt8)) ++ (dgR c.wh)) ++ ([32] : List UInt8)) ++ (dgR c.en)) ++ ([32] : List UInt8))) (ys := [107, 101, 112, 116]) rfl rfl rfl (by (try simp only [List.length_append, List.length_cons, List.length_nil] at *); omega)) ?_)
      refine ⟨.inl (hS.pick [0]), ?_⟩
      refine K.DW.l 19 rfl (by kernel_rfl) rfl (K.OW.q rfl (K.QR.k (v := .string (K.sb (((((((((((((((((((dg c.th.toNat) ++ ([32] : List UInt8)) ++ (opNm.getD c.ok.toNat [])) ++ ([32] : List UInt8)) ++ (dg c.key.toNat)) ++ ([32] : List UInt8)) ++ (dg c.val.toNat)) ++ ([32] : List UInt8)) ++ (resNm.getD c.rk.toNat [])) ++ ([32] : List UInt8)) ++ (dg c.rv.toNat)) ++ ([32] : List UInt8)) ++ (dgR c.beg)) ++ ([32] : List UInt8)) ++ (dgR c.wh)) ++ ([32] : List UInt8)) ++ (dgR c.en)) ++ ([32] : List UInt8)) ++ ([107, 101, 112, 116] : List UInt8)))) (by kernel_rfl)) ?_)
      refine ⟨.inl (hS.pick [0]), ?_⟩
      refine K.DW.done (by kernel_rfl) ?_
      refine K.thn_normal ?_
      refine K.KW.ret ?_
      refine ⟨.inr rfl, rfl, (.string (K.sb (((((((((((((((((((dg c.th.toNat) ++ ([32] : List UInt8)) ++ (opNm.getD c.ok.toNat [])) ++ ([32] : List UInt8)) ++ (dg c.key.toNat)) ++ ([32] : List UInt8)) ++ (dg c.val.toNat)) ++ ([32] : List UInt8)) ++ (resNm.getD c.rk.toNat [])) ++ ([32] : List UInt8)) ++ (dg c.rv.toNat)) ++ ([32] : List UInt8)) ++ (dgR c.beg)) ++ ([32] : List UInt8)) ++ (dgR c.wh)) ++ ([32] : List UInt8)) ++ (dgR c.en)) ++ ([32] : List UInt8)) ++ ([107, 101, 112, 116] : List UInt8)))), K.res1 rfl rfl, [], ?_, hS.pick [1]⟩
      refine ⟨rfl, ?_⟩
      rw [lineR_is hmay hf]
      unfold endR
      simp [*]
end Go.Proofs.YtnehocjmgnhhhaaDoor
