import Derived.Test.YtnehocjmgnhhhaaDoorFpt
import Derived.Test.YtnehocjmgnhhhaaDoorFrt3
import Derived.Test.YtnehocjmgnhhhaaDoorFra
/- The statement ReportStates. -/
namespace Go.Proofs.YtnehocjmgnhhhaaDoor
open Go.RowKit
set_option linter.unusedVariables false
attribute [local irreducible] K.KW K.RW K.DW K.OW K.QR K.KC
set_option maxHeartbeats 4000000 in
set_option maxRecDepth 100000 in
theorem lawrs_ok (w0 : World) (q s m : Option Addr) (cq cs cm : Nat) (S : StM) (hf : S.fits) (x1 : K.RowE w0 q S.q.length 1 (fun i => cU32 (S.q.getD i 0))) (x2 : K.RowE w0 s S.s.length 1 (fun i => cU32 (S.s.getD i 0))) (x3 : K.RowE w0 m S.m.length 2 (fun i => cPair (S.m.getD i p0))) :
    K.GC Tryd.prog w0 5 #[.agg #[.slice q S.q.length cq, .slice s S.s.length cs, .slice m S.m.length cm]] [] (fun v post => v = .bool true) := by
  refine K.GC.mk (n := 57) Tryd.func5 rfl rfl [.agg #[.slice q S.q.length cq, .slice s S.s.length cs, .slice m S.m.length cm]] rfl rfl ?_
  intro fr w hS
  replace hS : K.Sat w0 [fr] w := hS
  refine K.KW.seq ?_
  -- 0 :63
  refine K.KW.region ?_
  refine K.RW.l rfl (K.OW.gnew 46 [.slice q S.q.length cq, .slice s S.s.length cs, .slice m S.m.length cm] hS ?_)
  clear hS; intro w r_1 g_2 hg_3 hS
  refine K.RW.qs [.bool false] (by kernel_rfl) ?_
  refine K.RW.nil ?_
  refine K.thn_normal ?_
  refine K.KW.seq ?_
  refine K.KW.seq ?_
  -- 1 :64
  refine K.KW.region ?_
  refine K.RW.qs [.pointer (some ⟨r_1, 0, none⟩)] (by kernel_rfl) ?_
  refine K.RW.q rfl rfl (K.QR.ld1 (v := .slice q S.q.length cq) rfl rfl (by kernel_rfl) ((hS.blk 0 rfl hg_3).cell rfl)) ?_
  refine K.RW.q rfl rfl (K.QR.len (P := Tryd.prog) rfl rfl Tryd.underlying43) ?_
  by_cases h_4 : (((S.q.length : Nat) : Int) : Int) > (100 : Int)
  ·  -- yes
    refine K.RW.q rfl rfl (K.QR.nice (v := .bool (decide ((((S.q.length : Nat) : Int) : Int) > (100 : Int)))) (by kernel_rfl) (congrArg Value.bool (decide_eq_true h_4))) ?_
    refine K.RW.qs [.bool true] (by kernel_rfl) ?_
    refine K.RW.skip rfl (by kernel_rfl) ?_
    refine K.RW.skip rfl (by kernel_rfl) ?_
    refine K.RW.skip rfl (by kernel_rfl) ?_
    refine K.RW.skip rfl (by kernel_rfl) ?_
    refine K.RW.qs [.bool true, .bool true] (by kernel_rfl) ?_
    refine K.RW.skip rfl (by kernel_rfl) ?_
    refine K.RW.skip rfl (by kernel_rfl) ?_
    refine K.RW.skip rfl (by kernel_rfl) ?_
    refine K.RW.skip rfl (by kernel_rfl) ?_
    refine K.RW.qs [.bool true] (by kernel_rfl) ?_
    refine K.RW.nil ?_
    refine K.thn_normal ?_
    refine K.KW.ifT rfl ?_
    refine K.KW.seq ?_
    -- 2 :65
    refine K.KW.region ?_
    refine K.RW.l rfl (K.OW.gcall hS [] [0, 1] [] (awake29_ok _) ?_)
    clear hS; rintro _ _ w ⟨rfl, rfl⟩ hS
    replace hS : K.Sat w0 [g_2, fr] w := hS
    refine K.RW.qs [.bool true] (by kernel_rfl) ?_
    refine K.RW.nil ?_
    refine K.thn_normal ?_
    refine K.KW.ret ?_
    refine K.thn_ret ?_
    refine ⟨.inr rfl, rfl, (.bool true), K.res1 rfl rfl, [], ?_, hS.pick [1]⟩
    exact rfl
  ·  -- no
    refine K.RW.q rfl rfl (K.QR.nice (v := .bool (decide ((((S.q.length : Nat) : Int) : Int) > (100 : Int)))) (by kernel_rfl) (congrArg Value.bool (decide_eq_false h_4))) ?_
    refine K.RW.qs [.bool false, .pointer (some ⟨r_1, 1, none⟩)] (by kernel_rfl) ?_
    refine K.RW.q rfl (by kernel_rfl) (K.QR.ld1 (v := .slice s S.s.length cs) rfl rfl (by kernel_rfl) ((hS.blk 0 rfl hg_3).cell rfl)) ?_
    refine K.RW.q rfl (by kernel_rfl) (K.QR.len (P := Tryd.prog) rfl rfl Tryd.underlying43) ?_
    by_cases h_5 : (((S.s.length : Nat) : Int) : Int) > (100 : Int)
    ·  -- yes
      refine K.RW.q rfl (by kernel_rfl) (K.QR.nice (v := .bool (decide ((((S.s.length : Nat) : Int) : Int) > (100 : Int)))) (by kernel_rfl) (congrArg Value.bool (decide_eq_true h_5))) ?_
      refine K.RW.qs [.bool true, .bool true] (by kernel_rfl) ?_
      refine K.RW.skip rfl (by kernel_rfl) ?_
      refine K.RW.skip rfl (by kernel_rfl) ?_
      refine K.RW.skip rfl (by kernel_rfl) ?_
      refine K.RW.skip rfl (by kernel_rfl) ?_
      refine K.RW.qs [.bool true] (by kernel_rfl) ?_
      refine K.RW.nil ?_
      refine K.thn_normal ?_
      refine K.KW.ifT rfl ?_
      refine K.KW.seq ?_
      -- 2 :65
      refine K.KW.region ?_
      refine K.RW.l rfl (K.OW.gcall hS [] [0, 1] [] (awake29_ok _) ?_)
      clear hS; rintro _ _ w ⟨rfl, rfl⟩ hS
      replace hS : K.Sat w0 [g_2, fr] w := hS
      refine K.RW.qs [.bool true] (by kernel_rfl) ?_
      refine K.RW.nil ?_
      refine K.thn_normal ?_
      refine K.KW.ret ?_
      refine K.thn_ret ?_
      refine ⟨.inr rfl, rfl, (.bool true), K.res1 rfl rfl, [], ?_, hS.pick [1]⟩
      exact rfl
    ·  -- no
      refine K.RW.q rfl (by kernel_rfl) (K.QR.nice (v := .bool (decide ((((S.s.length : Nat) : Int) : Int) > (100 : Int)))) (by kernel_rfl) (congrArg Value.bool (decide_eq_false h_5))) ?_
      refine K.RW.qs [.bool false, .bool false, .pointer (some ⟨r_1, 2, none⟩)] (by kernel_rfl) ?_
      refine K.RW.q rfl (by kernel_rfl) (K.QR.ld1 (v := .slice m S.m.length cm) rfl rfl (by kernel_rfl) ((hS.blk 0 rfl hg_3).cell rfl)) ?_
      refine K.RW.q rfl (by kernel_rfl) (K.QR.len (P := Tryd.prog) rfl rfl Tryd.underlying44) ?_
      by_cases h_6 : (((S.m.length : Nat) : Int) : Int) > (100 : Int)
      ·  -- yes
        refine K.RW.q rfl (by kernel_rfl) (K.QR.nice (v := .bool (decide ((((S.m.length : Nat) : Int) : Int) > (100 : Int)))) (by kernel_rfl) (congrArg Value.bool (decide_eq_true h_6))) ?_
        refine K.RW.qs [.bool true] (by kernel_rfl) ?_
        refine K.RW.nil ?_
        refine K.thn_normal ?_
        refine K.KW.ifT rfl ?_
        refine K.KW.seq ?_
        -- 2 :65
        refine K.KW.region ?_
        refine K.RW.l rfl (K.OW.gcall hS [] [0, 1] [] (awake29_ok _) ?_)
        clear hS; rintro _ _ w ⟨rfl, rfl⟩ hS
        replace hS : K.Sat w0 [g_2, fr] w := hS
        refine K.RW.qs [.bool true] (by kernel_rfl) ?_
        refine K.RW.nil ?_
        refine K.thn_normal ?_
        refine K.KW.ret ?_
        refine K.thn_ret ?_
        refine ⟨.inr rfl, rfl, (.bool true), K.res1 rfl rfl, [], ?_, hS.pick [1]⟩
        exact rfl
      ·  -- no
        refine K.RW.q rfl (by kernel_rfl) (K.QR.nice (v := .bool (decide ((((S.m.length : Nat) : Int) : Int) > (100 : Int)))) (by kernel_rfl) (congrArg Value.bool (decide_eq_false h_6))) ?_
        refine K.RW.qs [.bool false] (by kernel_rfl) ?_
        refine K.RW.nil ?_
        refine K.thn_normal ?_
        refine K.KW.ifF rfl ?_
        refine K.KW.skip ?_
        refine K.thn_normal ?_
        refine K.KW.seq ?_
        -- 3 :67
        have hw : S.few := ⟨by omega, by omega, by omega⟩
        refine K.KW.region ?_
        refine K.RW.q rfl rfl (K.QR.ldN [.slice q S.q.length cq, .slice s S.s.length cs, .slice m S.m.length cm] rfl rfl (by kernel_rfl) (by kernel_rfl) (K.cells (K.cl ((hS.blk 0 rfl hg_3).cell rfl) (K.cl ((hS.blk 0 rfl hg_3).cell rfl) (K.cl ((hS.blk 0 rfl hg_3).cell rfl) K.cl0))))) ?_
        refine K.RW.l rfl (K.OW.gcall hS [52, 53, 54] [0, 1] [.agg #[.slice q S.q.length cq, .slice s S.s.length cs, .slice m S.m.length cm]] (state_ok _ _ _ _ _ _ _ (⟨S.q, S.s, S.m⟩ : StM) hf hw _ (fun w h => x1.no h.chg) _ (fun w h => x2.no h.chg) _ (fun w h => x3.no h.chg)) ?_)
        clear hS; rintro _ _ w ⟨rfl, rfl⟩ hS
        replace hS : K.Sat w0 [g_2, fr] w := hS.of (by simp [K.pick, K.nth])
        refine K.RW.qs [.string (K.sb (stR (⟨S.q, S.s, S.m⟩ : StM)))] (by kernel_rfl) ?_
        refine K.RW.nil ?_
        refine K.thn_normal ?_
        refine K.KW.seq ?_
        -- 4 :68
        refine K.KW.region ?_
        refine K.RW.qs [.string (K.sb (stR (⟨S.q, S.s, S.m⟩ : StM)))] (by kernel_rfl) ?_
        refine K.RW.l rfl (K.OW.gcall hS [] [0, 1] [.string (K.sb (stR (⟨S.q, S.s, S.m⟩ : StM)))] (rstate_ok _ (stR (⟨S.q, S.s, S.m⟩ : StM)) (by exact Nat.le_trans (stR_len hf hw) (by omega)) (fun T h => rs_inj hf h ▸ hw)) ?_)
        clear hS; rintro _ _ w (⟨S_7, a1_8, a2_9, a3_10, c1_11, c2_12, c3_13, g1_14, g2_15, g3_16, h_17, hr_18, rfl, rfl, o1_19, o2_20, o3_21⟩ | ⟨h_22, rfl, rfl⟩ | ⟨S_23, h_24, hr_25, rfl, rfl⟩) hS
        ·
          replace hS : K.Sat w0 [g1_14, g2_15, g3_16, g_2, fr] w := hS
          refine K.RW.qs [.tuple #[.agg #[.slice a1_8 S_7.q.length c1_11, .slice a2_9 S_7.s.length c2_12, .slice a3_10 S_7.m.length c3_13], .int .i64 0], .agg #[.slice a1_8 S_7.q.length c1_11, .slice a2_9 S_7.s.length c2_12, .slice a3_10 S_7.m.length c3_13], .int .i64 0] (by kernel_rfl) ?_
          refine K.RW.l rfl (K.OW.gnew 46 [.slice none 0 0, .slice none 0 0, .slice none 0 0] hS ?_)
          clear hS; intro w r_26 g_27 hg_28 hS
          refine K.RW.l rfl (K.OW.gst 0 [.slice a1_8 S_7.q.length c1_11, .slice a2_9 S_7.s.length c2_12, .slice a3_10 S_7.m.length c3_13] [.slice a1_8 S_7.q.length c1_11, .slice a2_9 S_7.s.length c2_12, .slice a3_10 S_7.m.length c3_13] hS hg_28 ?_)
          clear hS; intro w g_29 hg_30 hS
          replace hS : K.Sat w0 [g_29, g1_14, g2_15, g3_16, g_2, fr] w := hS
          refine K.RW.qs [.int .i64 0] (by kernel_rfl) ?_
          refine K.RW.nil ?_
          refine K.thn_normal ?_
          refine K.KW.seq ?_
          refine K.KW.seq ?_
          -- 5 :69
          have hTS : S_7 = S := rs_inj hf h_17
          have hfw : S_7.few := hTS ▸ hw
          have hfw1 := hfw.1
          have hfw2 := hfw.2.1
          have hfw3 := hfw.2.2
          refine K.KW.region ?_
          refine K.RW.qs [.string (K.sb (stR (⟨S.q, S.s, S.m⟩ : StM)))] (by kernel_rfl) ?_
          refine K.RW.q rfl rfl (K.QR.ldN [.slice q S.q.length cq, .slice s S.s.length cs, .slice m S.m.length cm] rfl rfl (by kernel_rfl) (by kernel_rfl) (K.cells (K.cl ((hS.blk 4 rfl hg_3).cell rfl) (K.cl ((hS.blk 4 rfl hg_3).cell rfl) (K.cl ((hS.blk 4 rfl hg_3).cell rfl) K.cl0))))) ?_
          refine K.RW.l rfl (K.OW.gcall hS [56, 57, 58] [0, 1, 2, 3, 4, 5] [.agg #[.slice q S.q.length cq, .slice s S.s.length cs, .slice m S.m.length cm]] (rst_ok _ _ _ _ _ _ _ (⟨S.q, S.s, S.m⟩ : StM) hf hw _ (fun w h => x1.no h.chg) _ (fun w h => x2.no h.chg) _ (fun w h => x3.no h.chg)) ?_)
          clear hS; rintro _ _ w ⟨rfl, rfl⟩ hS
          replace hS : K.Sat w0 [g_29, g1_14, g2_15, g3_16, g_2, fr] w := hS.of (by simp [K.pick, K.nth])
          refine K.RW.q rfl rfl (K.QR.sNe (xs := (stR (⟨S.q, S.s, S.m⟩ : StM))) (ys := (stR (⟨S.q, S.s, S.m⟩ : StM))) false rfl rfl rfl (K.ndeq_t rfl)) ?_
          refine K.RW.nil ?_
          refine K.thn_normal ?_
          refine K.KW.ifF rfl ?_
          refine K.KW.skip ?_
          refine K.thn_normal ?_
          refine K.KW.seq ?_
          refine K.KW.seq ?_
          -- 7 :72
          refine K.KW.region ?_
          refine K.RW.q rfl rfl (K.QR.ldN [.slice q S.q.length cq, .slice s S.s.length cs, .slice m S.m.length cm] rfl rfl (by kernel_rfl) (by kernel_rfl) (K.cells (K.cl ((hS.blk 4 rfl hg_3).cell rfl) (K.cl ((hS.blk 4 rfl hg_3).cell rfl) (K.cl ((hS.blk 4 rfl hg_3).cell rfl) K.cl0))))) ?_
          refine K.RW.l rfl (K.OW.kcall hS [.agg #[.slice q S.q.length cq, .slice s S.s.length cs, .slice m S.m.length cm]] (rright_ok _ _ _ _ _ _ _ S.s S.m _ (by first | omega | decide) (by first | omega | decide) (x2.no hS.chg) (x3.no hS.chg)) ?_)
          rintro _ w ⟨rfl, c_31⟩
          replace hS := hS.no c_31
          have hb_32 : (risingB S.s && risingB (keysP S.m)) = true := hTS ▸ hr_18
          rw [hb_32]
          refine K.RW.qs [.bool false] (by kernel_rfl) ?_
          refine K.RW.nil ?_
          refine K.thn_normal ?_
          refine K.KW.ifF rfl ?_
          refine K.KW.skip ?_
          refine K.thn_normal ?_
          refine K.KW.seq ?_
          -- 9 :75
          refine K.KW.region ?_
          refine K.RW.l rfl (K.OW.gcall hS [] [0, 1, 2, 3, 4, 5] [] (awake29_ok _) ?_)
          clear hS; rintro _ _ w ⟨rfl, rfl⟩ hS
          replace hS : K.Sat w0 [g_29, g1_14, g2_15, g3_16, g_2, fr] w := hS
          refine K.RW.qs [.bool true, .int .i64 0, .bool true, .bool true, .bool true] (by kernel_rfl) ?_
          refine K.RW.q rfl (by kernel_rfl) (K.QR.ldN [.slice a1_8 S_7.q.length c1_11, .slice a2_9 S_7.s.length c2_12, .slice a3_10 S_7.m.length c3_13] rfl rfl (by kernel_rfl) (by kernel_rfl) (K.cells (K.cl ((hS.blk 0 rfl hg_30).cell rfl) (K.cl ((hS.blk 0 rfl hg_30).cell rfl) (K.cl ((hS.blk 0 rfl hg_30).cell rfl) K.cl0))))) ?_
          refine K.RW.q rfl (by kernel_rfl) (K.QR.ldN [.slice q S.q.length cq, .slice s S.s.length cs, .slice m S.m.length cm] rfl rfl (by kernel_rfl) (by kernel_rfl) (K.cells (K.cl ((hS.blk 4 rfl hg_3).cell rfl) (K.cl ((hS.blk 4 rfl hg_3).cell rfl) (K.cl ((hS.blk 4 rfl hg_3).cell rfl) K.cl0))))) ?_
          refine K.RW.l (by kernel_rfl) (K.OW.kcall hS [.agg #[.slice a1_8 S_7.q.length c1_11, .slice a2_9 S_7.s.length c2_12, .slice a3_10 S_7.m.length c3_13], .agg #[.slice q S.q.length cq, .slice s S.s.length cs, .slice m S.m.length cm]] (same8_ok _ _ _ _ _ _ _ _ _ _ _ _ S_7.q S_7.s S.q S.s S_7.m S.m _ (by first | omega | decide) (by first | omega | decide) (by first | omega | decide) (K.Own.rowE 0 (hS.ownr 1 rfl o1_19) rfl (fun _ => rfl)) (K.Own.rowE 0 (hS.ownr 2 rfl o2_20) rfl (fun _ => rfl)) (K.Own.rowE p0 (hS.ownr 3 rfl o3_21) rfl (fun _ => rfl)) (x1.no hS.chg) (x2.no hS.chg) (x3.no hS.chg)) ?_)
          rintro _ w ⟨rfl, c_33⟩
          replace hS := hS.no c_33
          have hb_34 : decide (S_7.q = S.q ∧ S_7.s = S.s ∧ S_7.m = S.m) = true := same_t2 hTS
          rw [hb_34]
          refine K.RW.qs [.bool true, .bool true] (by kernel_rfl) ?_
          refine K.RW.nil ?_
          refine K.thn_normal ?_
          refine K.KW.ret ?_
          refine ⟨.inr rfl, rfl, (.bool true), K.res1 rfl rfl, [], ?_, hS.pick [5]⟩
          exact rfl
        ·
          exact absurd ((readSt_stR hf).symm.trans h_22) (by simp)
        ·
          replace hS : K.Sat w0 [g_2, fr] w := hS
          refine K.RW.qs [.tuple #[.agg #[.slice none 0 0, .slice none 0 0, .slice none 0 0], .int .i64 9], .agg #[.slice none 0 0, .slice none 0 0, .slice none 0 0], .int .i64 9] (by kernel_rfl) ?_
          refine K.RW.l rfl (K.OW.gnew 46 [.slice none 0 0, .slice none 0 0, .slice none 0 0] hS ?_)
          clear hS; intro w r_35 g_36 hg_37 hS
          refine K.RW.l rfl (K.OW.gst 0 [.slice none 0 0, .slice none 0 0, .slice none 0 0] [.slice none 0 0, .slice none 0 0, .slice none 0 0] hS hg_37 ?_)
          clear hS; intro w g_38 hg_39 hS
          replace hS : K.Sat w0 [g_38, g_2, fr] w := hS
          refine K.RW.qs [.int .i64 9] (by kernel_rfl) ?_
          refine K.RW.nil ?_
          refine K.thn_normal ?_
          refine K.KW.seq ?_
          refine K.KW.seq ?_
          -- 5 :69
          have hTS : S_23 = S := rs_inj hf h_24
          have hfw : S_23.few := hTS ▸ hw
          have hfw1 := hfw.1
          have hfw2 := hfw.2.1
          have hfw3 := hfw.2.2
          refine K.KW.region ?_
          refine K.RW.qs [.string (K.sb (stR (⟨S.q, S.s, S.m⟩ : StM)))] (by kernel_rfl) ?_
          refine K.RW.q rfl rfl (K.QR.ldN [.slice q S.q.length cq, .slice s S.s.length cs, .slice m S.m.length cm] rfl rfl (by kernel_rfl) (by kernel_rfl) (K.cells (K.cl ((hS.blk 1 rfl hg_3).cell rfl) (K.cl ((hS.blk 1 rfl hg_3).cell rfl) (K.cl ((hS.blk 1 rfl hg_3).cell rfl) K.cl0))))) ?_
          refine K.RW.l rfl (K.OW.gcall hS [53, 54, 55] [0, 1, 2] [.agg #[.slice q S.q.length cq, .slice s S.s.length cs, .slice m S.m.length cm]] (rst_ok _ _ _ _ _ _ _ (⟨S.q, S.s, S.m⟩ : StM) hf hw _ (fun w h => x1.no h.chg) _ (fun w h => x2.no h.chg) _ (fun w h => x3.no h.chg)) ?_)
          clear hS; rintro _ _ w ⟨rfl, rfl⟩ hS
          replace hS : K.Sat w0 [g_38, g_2, fr] w := hS.of (by simp [K.pick, K.nth])
          refine K.RW.q rfl rfl (K.QR.sNe (xs := (stR (⟨S.q, S.s, S.m⟩ : StM))) (ys := (stR (⟨S.q, S.s, S.m⟩ : StM))) false rfl rfl rfl (K.ndeq_t rfl)) ?_
          refine K.RW.nil ?_
          refine K.thn_normal ?_
          refine K.KW.ifF rfl ?_
          refine K.KW.skip ?_
          refine K.thn_normal ?_
          refine K.KW.seq ?_
          refine K.KW.seq ?_
          -- 7 :72
          refine K.KW.region ?_
          refine K.RW.q rfl rfl (K.QR.ldN [.slice q S.q.length cq, .slice s S.s.length cs, .slice m S.m.length cm] rfl rfl (by kernel_rfl) (by kernel_rfl) (K.cells (K.cl ((hS.blk 1 rfl hg_3).cell rfl) (K.cl ((hS.blk 1 rfl hg_3).cell rfl) (K.cl ((hS.blk 1 rfl hg_3).cell rfl) K.cl0))))) ?_
          refine K.RW.l rfl (K.OW.kcall hS [.agg #[.slice q S.q.length cq, .slice s S.s.length cs, .slice m S.m.length cm]] (rright_ok _ _ _ _ _ _ _ S.s S.m _ (by first | omega | decide) (by first | omega | decide) (x2.no hS.chg) (x3.no hS.chg)) ?_)
          rintro _ w ⟨rfl, c_40⟩
          replace hS := hS.no c_40
          have hb_41 : (risingB S.s && risingB (keysP S.m)) = false := hTS ▸ hr_25
          rw [hb_41]
          refine K.RW.qs [.bool true] (by kernel_rfl) ?_
          refine K.RW.nil ?_
          refine K.thn_normal ?_
          refine K.KW.ifT rfl ?_
          refine K.KW.seq ?_
          -- 8 :73
          refine K.KW.region ?_
          refine K.RW.l rfl (K.OW.gcall hS [] [0, 1, 2] [] (awake29_ok _) ?_)
          clear hS; rintro _ _ w ⟨rfl, rfl⟩ hS
          replace hS : K.Sat w0 [g_38, g_2, fr] w := hS
          refine K.RW.qs [.bool true, .int .i64 9, .bool true, .bool true, .bool true] (by kernel_rfl) ?_
          refine K.RW.q rfl (by kernel_rfl) (K.QR.ldN [.slice none 0 0, .slice none 0 0, .slice none 0 0] rfl rfl (by kernel_rfl) (by kernel_rfl) (K.cells (K.cl ((hS.blk 0 rfl hg_39).cell rfl) (K.cl ((hS.blk 0 rfl hg_39).cell rfl) (K.cl ((hS.blk 0 rfl hg_39).cell rfl) K.cl0))))) ?_
          refine K.RW.q rfl (by kernel_rfl) (K.QR.bd [] [.slice none 0 0, .slice none 0 0, .slice none 0 0] rfl rfl (by kernel_rfl)) ?_
          refine K.RW.l (by kernel_rfl) (K.OW.kcall hS [.agg #[.slice none 0 0, .slice none 0 0, .slice none 0 0], .agg #[.slice none 0 0, .slice none 0 0, .slice none 0 0]] (same8_ok _ _ _ _ _ _ _ _ _ _ _ _ [] [] [] [] [] [] _ (by first | omega | decide) (by first | omega | decide) (by first | omega | decide) (K.RowE.zero _ _ _ _) (K.RowE.zero _ _ _ _) (K.RowE.zero _ _ _ _) (K.RowE.zero _ _ _ _) (K.RowE.zero _ _ _ _) (K.RowE.zero _ _ _ _)) ?_)
          rintro _ w ⟨rfl, c_42⟩
          replace hS := hS.no c_42
          have hb_43 : decide (([] : List Int) = [] ∧ ([] : List Int) = [] ∧ ([] : List PairM) = []) = true := by decide
          rw [hb_43]
          refine K.RW.qs [.bool true, .bool true] (by kernel_rfl) ?_
          refine K.RW.nil ?_
          refine K.thn_normal ?_
          refine K.KW.ret ?_
          refine K.thn_ret ?_
          refine ⟨.inr rfl, rfl, (.bool true), K.res1 rfl rfl, [], ?_, hS.pick [2]⟩
          exact rfl
end Go.Proofs.YtnehocjmgnhhhaaDoor
