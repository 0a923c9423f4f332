import Derived.Test.YtnehocjmgnhhhaaDoorFpl
import Derived.Test.YtnehocjmgnhhhaaDoorFra
/- The statement ReportReads. -/
namespace Go.Proofs.YtnehocjmgnhhhaaDoor
open Go.RowKit
set_option linter.unusedVariables false
attribute [local irreducible] K.KW K.RW K.DW K.OW K.QR K.KC
set_option maxHeartbeats 1000000 in
set_option maxRecDepth 100000 in
theorem lawrr_ok (w0 : World) (l : List UInt8) :
    K.GC Tryd.prog w0 3 #[.string (K.sb l)] [] (fun v post => v = .bool true) := by
  refine K.GC.mk (n := 59) Tryd.func3 rfl rfl [.string (K.sb l)] rfl rfl ?_
  intro fr w hS
  replace hS : K.Sat w0 [fr] w := hS
  refine K.KW.seq ?_
  -- 0 :49
  refine K.KW.region ?_
  refine K.RW.qs [.bool false] (by kernel_rfl) ?_
  refine K.RW.nil ?_
  refine K.thn_normal ?_
  refine K.KW.seq ?_
  refine K.KW.seq ?_
  -- 1 :50
  refine K.KW.region ?_
  refine K.RW.qs [.string (K.sb l)] (by kernel_rfl) ?_
  refine K.RW.q rfl rfl (K.QR.sLen (xs := l) rfl rfl Tryd.underlying9) ?_
  by_cases h_1 : (((l.length : Nat) : Int) : Int) > (300 : Int)
  ·  -- yes
    refine K.RW.q rfl rfl (K.QR.nice (v := .bool (decide ((((l.length : Nat) : Int) : Int) > (300 : Int)))) (by kernel_rfl) (congrArg Value.bool (decide_eq_true h_1))) ?_
    refine K.RW.nil ?_
    refine K.thn_normal ?_
    refine K.KW.ifT rfl ?_
    refine K.KW.seq ?_
    -- 2 :51
    refine K.KW.region ?_
    refine K.RW.l rfl (K.OW.gcall hS [] [0] [] (awake29_ok _) ?_)
    clear hS; rintro _ _ w ⟨rfl, rfl⟩ hS
    replace hS : K.Sat w0 [fr] w := hS
    refine K.RW.qs [.bool true] (by kernel_rfl) ?_
    refine K.RW.nil ?_
    refine K.thn_normal ?_
    refine K.KW.ret ?_
    refine K.thn_ret ?_
    refine ⟨.inr rfl, rfl, (.bool true), K.res1 rfl rfl, [], ?_, hS.pick [0]⟩
    exact rfl
  ·  -- no
    refine K.RW.q rfl rfl (K.QR.nice (v := .bool (decide ((((l.length : Nat) : Int) : Int) > (300 : Int)))) (by kernel_rfl) (congrArg Value.bool (decide_eq_false h_1))) ?_
    refine K.RW.nil ?_
    refine K.thn_normal ?_
    refine K.KW.ifF rfl ?_
    refine K.KW.skip ?_
    refine K.thn_normal ?_
    refine K.KW.seq ?_
    -- 3 :53
    refine K.KW.region ?_
    refine K.RW.qs [.string (K.sb l)] (by kernel_rfl) ?_
    refine K.RW.l rfl (K.OW.gcall hS [] [0] [.string (K.sb l)] (read_ok _ l (by omega)) ?_)
    clear hS; rintro _ _ w ⟨rfl, (⟨h_2, rfl⟩ | ⟨h_3, rfl⟩)⟩ hS
    ·
      replace hS : K.Sat w0 [fr] w := hS
      refine K.RW.qs [.tuple #[.agg #[.int .i64 ((readR l).th), .int .i64 ((readR l).ok), .int .u32 ((readR l).key), .int .u32 ((readR l).val), .int .i64 ((readR l).rk), .int .u32 ((readR l).rv), .int .i64 ((readR l).beg), .int .i64 ((readR l).en), .int .i64 ((readR l).wh), .bool ((readR l).cr), .bool ((readR l).kp)], .int .i64 0], .agg #[.int .i64 ((readR l).th), .int .i64 ((readR l).ok), .int .u32 ((readR l).key), .int .u32 ((readR l).val), .int .i64 ((readR l).rk), .int .u32 ((readR l).rv), .int .i64 ((readR l).beg), .int .i64 ((readR l).en), .int .i64 ((readR l).wh), .bool ((readR l).cr), .bool ((readR l).kp)], .int .i64 0] (by kernel_rfl) ?_
      refine K.RW.l rfl (K.OW.gnew 29 [.int .i64 0, .int .i64 0, .int .u32 0, .int .u32 0, .int .i64 0, .int .u32 0, .int .i64 0, .int .i64 0, .int .i64 0, .bool false, .bool false] hS ?_)
      clear hS; intro w r_4 g_5 hg_6 hS
      refine K.RW.l rfl (K.OW.gst 0 [.int .i64 ((readR l).th), .int .i64 ((readR l).ok), .int .u32 ((readR l).key), .int .u32 ((readR l).val), .int .i64 ((readR l).rk), .int .u32 ((readR l).rv), .int .i64 ((readR l).beg), .int .i64 ((readR l).en), .int .i64 ((readR l).wh), .bool ((readR l).cr), .bool ((readR l).kp)] [.int .i64 ((readR l).th), .int .i64 ((readR l).ok), .int .u32 ((readR l).key), .int .u32 ((readR l).val), .int .i64 ((readR l).rk), .int .u32 ((readR l).rv), .int .i64 ((readR l).beg), .int .i64 ((readR l).en), .int .i64 ((readR l).wh), .bool ((readR l).cr), .bool ((readR l).kp)] hS hg_6 ?_)
      clear hS; intro w g_7 hg_8 hS
      replace hS : K.Sat w0 [g_7, fr] w := hS
      refine K.RW.qs [.int .i64 0] (by kernel_rfl) ?_
      refine K.RW.nil ?_
      refine K.thn_normal ?_
      refine K.KW.seq ?_
      -- 4 :54
      refine K.KW.region ?_
      refine K.RW.qs [.string (K.sb l)] (by kernel_rfl) ?_
      refine K.RW.l rfl (K.OW.gcall hS [] [0, 1] [.string (K.sb l)] (rread_ok _ l (by omega)) ?_)
      clear hS; rintro _ _ w ⟨rfl, (⟨h_9, rfl⟩ | ⟨h_10, rfl⟩)⟩ hS
      ·
        replace hS : K.Sat w0 [g_7, fr] w := hS
        refine K.RW.qs [.tuple #[.agg #[.int .i64 ((rdT (K.spl 32 l)).th), .int .i64 ((rdT (K.spl 32 l)).ok), .int .u32 ((rdT (K.spl 32 l)).key), .int .u32 ((rdT (K.spl 32 l)).val), .int .i64 ((rdT (K.spl 32 l)).rk), .int .u32 ((rdT (K.spl 32 l)).rv), .int .i64 ((rdT (K.spl 32 l)).beg), .int .i64 ((rdT (K.spl 32 l)).en), .int .i64 ((rdT (K.spl 32 l)).wh), .bool ((rdT (K.spl 32 l)).cr), .bool ((rdT (K.spl 32 l)).kp)], .bool true], .agg #[.int .i64 ((rdT (K.spl 32 l)).th), .int .i64 ((rdT (K.spl 32 l)).ok), .int .u32 ((rdT (K.spl 32 l)).key), .int .u32 ((rdT (K.spl 32 l)).val), .int .i64 ((rdT (K.spl 32 l)).rk), .int .u32 ((rdT (K.spl 32 l)).rv), .int .i64 ((rdT (K.spl 32 l)).beg), .int .i64 ((rdT (K.spl 32 l)).en), .int .i64 ((rdT (K.spl 32 l)).wh), .bool ((rdT (K.spl 32 l)).cr), .bool ((rdT (K.spl 32 l)).kp)], .bool true] (by kernel_rfl) ?_
        refine K.RW.l rfl (K.OW.gnew 29 [.int .i64 0, .int .i64 0, .int .u32 0, .int .u32 0, .int .i64 0, .int .u32 0, .int .i64 0, .int .i64 0, .int .i64 0, .bool false, .bool false] hS ?_)
        clear hS; intro w r_11 g_12 hg_13 hS
        refine K.RW.l rfl (K.OW.gst 0 [.int .i64 ((rdT (K.spl 32 l)).th), .int .i64 ((rdT (K.spl 32 l)).ok), .int .u32 ((rdT (K.spl 32 l)).key), .int .u32 ((rdT (K.spl 32 l)).val), .int .i64 ((rdT (K.spl 32 l)).rk), .int .u32 ((rdT (K.spl 32 l)).rv), .int .i64 ((rdT (K.spl 32 l)).beg), .int .i64 ((rdT (K.spl 32 l)).en), .int .i64 ((rdT (K.spl 32 l)).wh), .bool ((rdT (K.spl 32 l)).cr), .bool ((rdT (K.spl 32 l)).kp)] [.int .i64 ((rdT (K.spl 32 l)).th), .int .i64 ((rdT (K.spl 32 l)).ok), .int .u32 ((rdT (K.spl 32 l)).key), .int .u32 ((rdT (K.spl 32 l)).val), .int .i64 ((rdT (K.spl 32 l)).rk), .int .u32 ((rdT (K.spl 32 l)).rv), .int .i64 ((rdT (K.spl 32 l)).beg), .int .i64 ((rdT (K.spl 32 l)).en), .int .i64 ((rdT (K.spl 32 l)).wh), .bool ((rdT (K.spl 32 l)).cr), .bool ((rdT (K.spl 32 l)).kp)] hS hg_13 ?_)
        clear hS; intro w g_14 hg_15 hS
        replace hS : K.Sat w0 [g_14, g_7, fr] w := hS
        refine K.RW.qs [.bool true] (by kernel_rfl) ?_
        refine K.RW.nil ?_
        refine K.thn_normal ?_
        refine K.KW.seq ?_
        refine K.KW.seq ?_
        -- 5 :55
        refine K.KW.region ?_
        refine K.RW.qs [.bool true, .bool false] (by kernel_rfl) ?_
        refine K.RW.nil ?_
        refine K.thn_normal ?_
        refine K.KW.ifF rfl ?_
        refine K.KW.skip ?_
        refine K.thn_normal ?_
        refine K.KW.seq ?_
        -- 7 :58
        refine K.KW.region ?_
        refine K.RW.q rfl rfl (K.QR.ldN [.int .i64 ((readR l).th), .int .i64 ((readR l).ok), .int .u32 ((readR l).key), .int .u32 ((readR l).val), .int .i64 ((readR l).rk), .int .u32 ((readR l).rv), .int .i64 ((readR l).beg), .int .i64 ((readR l).en), .int .i64 ((readR l).wh), .bool ((readR l).cr), .bool ((readR l).kp)] rfl rfl (by kernel_rfl) (by kernel_rfl) (K.cells (K.cl ((hS.blk 1 rfl hg_8).cell rfl) (K.cl ((hS.blk 1 rfl hg_8).cell rfl) (K.cl ((hS.blk 1 rfl hg_8).cell rfl) (K.cl ((hS.blk 1 rfl hg_8).cell rfl) (K.cl ((hS.blk 1 rfl hg_8).cell rfl) (K.cl ((hS.blk 1 rfl hg_8).cell rfl) (K.cl ((hS.blk 1 rfl hg_8).cell rfl) (K.cl ((hS.blk 1 rfl hg_8).cell rfl) (K.cl ((hS.blk 1 rfl hg_8).cell rfl) (K.cl ((hS.blk 1 rfl hg_8).cell rfl) (K.cl ((hS.blk 1 rfl hg_8).cell rfl) K.cl0))))))))))))) ?_
        refine K.RW.l rfl (K.OW.gcall hS [] [0, 1, 2] [.agg #[.int .i64 ((readR l).th), .int .i64 ((readR l).ok), .int .u32 ((readR l).key), .int .u32 ((readR l).val), .int .i64 ((readR l).rk), .int .u32 ((readR l).rv), .int .i64 ((readR l).beg), .int .i64 ((readR l).en), .int .i64 ((readR l).wh), .bool ((readR l).cr), .bool ((readR l).kp)]] (line_ok _ (readR l) (line_of_read h_2).2.2) ?_)
        clear hS; rintro _ _ w ⟨rfl, (⟨h_16, rfl⟩ | ⟨h_17, rfl⟩)⟩ hS
        ·
          replace hS : K.Sat w0 [g_14, g_7, fr] w := hS
          refine K.RW.qs [.tuple #[.string (K.sb (lineR (readR l))), .int .i64 0], .string (K.sb (lineR (readR l))), .int .i64 0, .string (K.sb (lineR (readR l))), .int .i64 0] (by kernel_rfl) ?_
          refine K.RW.nil ?_
          refine K.thn_normal ?_
          refine K.KW.seq ?_
          -- 8 :59
          refine K.KW.region ?_
          refine K.RW.l rfl (K.OW.gcall hS [] [0, 1, 2] [] (awake29_ok _) ?_)
          clear hS; rintro _ _ w ⟨rfl, rfl⟩ hS
          replace hS : K.Sat w0 [g_14, g_7, fr] w := hS
          refine K.RW.qs [.bool true, .int .i64 0, .bool true, .bool true, .bool true] (by kernel_rfl) ?_
          refine K.RW.q rfl (by kernel_rfl) (K.QR.ldN [.int .i64 ((readR l).th), .int .i64 ((readR l).ok), .int .u32 ((readR l).key), .int .u32 ((readR l).val), .int .i64 ((readR l).rk), .int .u32 ((readR l).rv), .int .i64 ((readR l).beg), .int .i64 ((readR l).en), .int .i64 ((readR l).wh), .bool ((readR l).cr), .bool ((readR l).kp)] rfl rfl (by kernel_rfl) (by kernel_rfl) (K.cells (K.cl ((hS.blk 1 rfl hg_8).cell rfl) (K.cl ((hS.blk 1 rfl hg_8).cell rfl) (K.cl ((hS.blk 1 rfl hg_8).cell rfl) (K.cl ((hS.blk 1 rfl hg_8).cell rfl) (K.cl ((hS.blk 1 rfl hg_8).cell rfl) (K.cl ((hS.blk 1 rfl hg_8).cell rfl) (K.cl ((hS.blk 1 rfl hg_8).cell rfl) (K.cl ((hS.blk 1 rfl hg_8).cell rfl) (K.cl ((hS.blk 1 rfl hg_8).cell rfl) (K.cl ((hS.blk 1 rfl hg_8).cell rfl) (K.cl ((hS.blk 1 rfl hg_8).cell rfl) K.cl0))))))))))))) ?_
          refine K.RW.q rfl (by kernel_rfl) (K.QR.ldN [.int .i64 ((rdT (K.spl 32 l)).th), .int .i64 ((rdT (K.spl 32 l)).ok), .int .u32 ((rdT (K.spl 32 l)).key), .int .u32 ((rdT (K.spl 32 l)).val), .int .i64 ((rdT (K.spl 32 l)).rk), .int .u32 ((rdT (K.spl 32 l)).rv), .int .i64 ((rdT (K.spl 32 l)).beg), .int .i64 ((rdT (K.spl 32 l)).en), .int .i64 ((rdT (K.spl 32 l)).wh), .bool ((rdT (K.spl 32 l)).cr), .bool ((rdT (K.spl 32 l)).kp)] rfl rfl (by kernel_rfl) (by kernel_rfl) (K.cells (K.cl ((hS.blk 0 rfl hg_15).cell rfl) (K.cl ((hS.blk 0 rfl hg_15).cell rfl) (K.cl ((hS.blk 0 rfl hg_15).cell rfl) (K.cl ((hS.blk 0 rfl hg_15).cell rfl) (K.cl ((hS.blk 0 rfl hg_15).cell rfl) (K.cl ((hS.blk 0 rfl hg_15).cell rfl) (K.cl ((hS.blk 0 rfl hg_15).cell rfl) (K.cl ((hS.blk 0 rfl hg_15).cell rfl) (K.cl ((hS.blk 0 rfl hg_15).cell rfl) (K.cl ((hS.blk 0 rfl hg_15).cell rfl) (K.cl ((hS.blk 0 rfl hg_15).cell rfl) K.cl0))))))))))))) ?_
          refine K.RW.q rfl (by kernel_rfl) (K.QR.eqS (by kernel_rfl) rfl rfl rfl (eqCall_t (by simp [(okT_of h_2).2]))) ?_
          refine K.RW.qs [.bool true, .bool true, .int .i64 0, .bool true, .bool true, .bool true, .string (K.sb (lineR (readR l))), .string (K.sb l)] (by kernel_rfl) ?_
          refine K.RW.q rfl (by kernel_rfl) (K.QR.sEq (xs := (lineR (readR l))) (ys := l) true rfl rfl rfl (K.deq_t ((line_of_read h_2).2.1))) ?_
          refine K.RW.qs [.bool true, .bool true] (by kernel_rfl) ?_
          refine K.RW.nil ?_
          refine K.thn_normal ?_
          refine K.KW.ret ?_
          refine ⟨.inr rfl, rfl, (.bool true), K.res1 rfl rfl, [], ?_, hS.pick [2]⟩
          exact rfl
        ·
          exact absurd (line_of_read h_2).1 h_17
      ·
        exact absurd (okT_of h_2).1 h_10
    ·
      replace hS : K.Sat w0 [fr] w := hS
      refine K.RW.qs [.tuple #[.agg #[.int .i64 0, .int .i64 0, .int .u32 0, .int .u32 0, .int .i64 0, .int .u32 0, .int .i64 0, .int .i64 0, .int .i64 0, .bool false, .bool false], .int .i64 3], .agg #[.int .i64 0, .int .i64 0, .int .u32 0, .int .u32 0, .int .i64 0, .int .u32 0, .int .i64 0, .int .i64 0, .int .i64 0, .bool false, .bool false], .int .i64 3] (by kernel_rfl) ?_
      refine K.RW.l rfl (K.OW.gnew 29 [.int .i64 0, .int .i64 0, .int .u32 0, .int .u32 0, .int .i64 0, .int .u32 0, .int .i64 0, .int .i64 0, .int .i64 0, .bool false, .bool false] hS ?_)
      clear hS; intro w r_18 g_19 hg_20 hS
      refine K.RW.l rfl (K.OW.gst 0 [.int .i64 0, .int .i64 0, .int .u32 0, .int .u32 0, .int .i64 0, .int .u32 0, .int .i64 0, .int .i64 0, .int .i64 0, .bool false, .bool false] [.int .i64 0, .int .i64 0, .int .u32 0, .int .u32 0, .int .i64 0, .int .u32 0, .int .i64 0, .int .i64 0, .int .i64 0, .bool false, .bool false] hS hg_20 ?_)
      clear hS; intro w g_21 hg_22 hS
      replace hS : K.Sat w0 [g_21, fr] w := hS
      refine K.RW.qs [.int .i64 3] (by kernel_rfl) ?_
      refine K.RW.nil ?_
      refine K.thn_normal ?_
      refine K.KW.seq ?_
      -- 4 :54
      refine K.KW.region ?_
      refine K.RW.qs [.string (K.sb l)] (by kernel_rfl) ?_
      refine K.RW.l rfl (K.OW.gcall hS [] [0, 1] [.string (K.sb l)] (rread_ok _ l (by omega)) ?_)
      clear hS; rintro _ _ w ⟨rfl, (⟨h_23, rfl⟩ | ⟨h_24, rfl⟩)⟩ hS
      ·
        exact absurd (okR_of h_23) h_3
      ·
        replace hS : K.Sat w0 [g_21, fr] w := hS
        refine K.RW.qs [.tuple #[.agg #[.int .i64 0, .int .i64 0, .int .u32 0, .int .u32 0, .int .i64 0, .int .u32 0, .int .i64 0, .int .i64 0, .int .i64 0, .bool false, .bool false], .bool false], .agg #[.int .i64 0, .int .i64 0, .int .u32 0, .int .u32 0, .int .i64 0, .int .u32 0, .int .i64 0, .int .i64 0, .int .i64 0, .bool false, .bool false], .bool false] (by kernel_rfl) ?_
        refine K.RW.l rfl (K.OW.gnew 29 [.int .i64 0, .int .i64 0, .int .u32 0, .int .u32 0, .int .i64 0, .int .u32 0, .int .i64 0, .int .i64 0, .int .i64 0, .bool false, .bool false] hS ?_)
        clear hS; intro w r_25 g_26 hg_27 hS
        refine K.RW.l rfl (K.OW.gst 0 [.int .i64 0, .int .i64 0, .int .u32 0, .int .u32 0, .int .i64 0, .int .u32 0, .int .i64 0, .int .i64 0, .int .i64 0, .bool false, .bool false] [.int .i64 0, .int .i64 0, .int .u32 0, .int .u32 0, .int .i64 0, .int .u32 0, .int .i64 0, .int .i64 0, .int .i64 0, .bool false, .bool false] hS hg_27 ?_)
        clear hS; intro w g_28 hg_29 hS
        replace hS : K.Sat w0 [g_28, g_21, fr] w := hS
        refine K.RW.qs [.bool false] (by kernel_rfl) ?_
        refine K.RW.nil ?_
        refine K.thn_normal ?_
        refine K.KW.seq ?_
        refine K.KW.seq ?_
        -- 5 :55
        refine K.KW.region ?_
        refine K.RW.qs [.bool false, .bool true] (by kernel_rfl) ?_
        refine K.RW.nil ?_
        refine K.thn_normal ?_
        refine K.KW.ifT rfl ?_
        refine K.KW.seq ?_
        -- 6 :56
        refine K.KW.region ?_
        refine K.RW.l rfl (K.OW.gcall hS [] [0, 1, 2] [] (awake29_ok _) ?_)
        clear hS; rintro _ _ w ⟨rfl, rfl⟩ hS
        replace hS : K.Sat w0 [g_28, g_21, fr] w := hS
        refine K.RW.qs [.bool true, .int .i64 3, .bool true, .bool true, .bool true] (by kernel_rfl) ?_
        refine K.RW.q rfl (by kernel_rfl) (K.QR.ldN [.int .i64 0, .int .i64 0, .int .u32 0, .int .u32 0, .int .i64 0, .int .u32 0, .int .i64 0, .int .i64 0, .int .i64 0, .bool false, .bool false] rfl rfl (by kernel_rfl) (by kernel_rfl) (K.cells (K.cl ((hS.blk 1 rfl hg_22).cell rfl) (K.cl ((hS.blk 1 rfl hg_22).cell rfl) (K.cl ((hS.blk 1 rfl hg_22).cell rfl) (K.cl ((hS.blk 1 rfl hg_22).cell rfl) (K.cl ((hS.blk 1 rfl hg_22).cell rfl) (K.cl ((hS.blk 1 rfl hg_22).cell rfl) (K.cl ((hS.blk 1 rfl hg_22).cell rfl) (K.cl ((hS.blk 1 rfl hg_22).cell rfl) (K.cl ((hS.blk 1 rfl hg_22).cell rfl) (K.cl ((hS.blk 1 rfl hg_22).cell rfl) (K.cl ((hS.blk 1 rfl hg_22).cell rfl) K.cl0))))))))))))) ?_
        refine K.RW.q rfl (by kernel_rfl) (K.QR.bd [] [.int .i64 0, .int .i64 0, .int .u32 0, .int .u32 0, .int .i64 0, .int .u32 0, .int .i64 0, .int .i64 0, .int .i64 0, .bool false, .bool false] rfl rfl (by kernel_rfl)) ?_
        refine K.RW.q rfl (by kernel_rfl) (K.QR.eqS (by kernel_rfl) rfl rfl rfl (eqCall_t (by decide))) ?_
        refine K.RW.qs [.bool true, .bool true] (by kernel_rfl) ?_
        refine K.RW.nil ?_
        refine K.thn_normal ?_
        refine K.KW.ret ?_
        refine K.thn_ret ?_
        refine ⟨.inr rfl, rfl, (.bool true), K.res1 rfl rfl, [], ?_, hS.pick [2]⟩
        exact rfl
end Go.Proofs.YtnehocjmgnhhhaaDoor
