/- The statement ModelRuns. -/
import Derived.Test.YtgeihjiichdpbaaFl8
namespace Go.Proofs.Ytgeihjiichdpbaa
open Go.RowKit
set_option linter.unusedVariables false
attribute [local irreducible] K.KW K.RW K.DW K.OW K.QR K.KC

set_option maxHeartbeats 1000000 in
set_option maxRecDepth 100000 in
theorem l8runs_ok (w0 : World) (q s m : Option Addr) (cq cs cm : Nat) (qa sa : List Int) (ma : List PairM) (b : Option Addr) (cb : Nat) (ls : List OpM) (hc : qa.length ≤ cq) (hl : ls.length ≤ 9223372036854775807) (x1 : RU32 w0 q qa) (x2 : RU32 w0 s sa) (x3 : RPr w0 m ma) (x4 : K.RowE w0 b ls.length 3 (fun i => cOp (ls.getD i op0))) :
    K.GC Try.prog w0 5 #[.agg #[.slice q qa.length cq, .slice s sa.length cs, .slice m ma.length cm], .slice b ls.length cb] [] (fun v post => v = .bool true) := by
  refine K.GC.mk (n := 128) Try.func5 rfl rfl [.agg #[.slice q qa.length cq, .slice s sa.length cs, .slice m ma.length cm], .slice b ls.length cb] rfl rfl ?_
  intro fr w hS
  replace hS : K.Sat w0 [fr] w := hS
  refine K.KW.seq ?_
  -- 0 :43
  refine K.KW.region ?_
  refine K.RW.l rfl (K.OW.gnew 42 [.slice q qa.length cq, .slice s sa.length cs, .slice m ma.length cm] hS ?_)
  clear hS; intro w r_1 g_2 hg_3 hS
  refine K.RW.qs [.bool false] (by kernel_rfl) ?_
  refine K.RW.nil ?_
  refine K.thn_normal ?_
  refine K.KW.seq ?_
  refine K.KW.seq ?_
  -- 1 :44
  refine K.KW.gdrawn [0] hS (by kernel_rfl) ?_
  clear hS; intro w hS
  refine K.DW.l 0 rfl (by kernel_rfl) rfl (K.OW.q rfl (K.QR.ldN [.slice q qa.length cq, .slice s sa.length cs, .slice m ma.length cm] rfl rfl (by kernel_rfl) (by kernel_rfl) (K.cells (K.cl ((hS.blk 0 rfl hg_3).cell rfl) (K.cl ((hS.blk 0 rfl hg_3).cell rfl) (K.cl ((hS.blk 0 rfl hg_3).cell rfl) K.cl0))))) ?_)
  refine ⟨.inl (hS.pick [0]), ?_⟩
  refine K.DW.l 1 rfl (by kernel_rfl) rfl (K.OW.kcall hS [.agg #[.slice q qa.length cq, .slice s sa.length cs, .slice m ma.length cm]] (few8_ok _ _ _ _ _ _ _ _ _ _) ?_)
  rintro _ w ⟨rfl, c_4⟩
  replace hS := hS.no c_4
  cases hb_5 : decide (qa.length ≤ 100 ∧ sa.length ≤ 100 ∧ ma.length ≤ 100)
  ·
    refine ⟨.inl (hS.pick [0]), ?_⟩
    refine K.DW.l 2 rfl (by kernel_rfl) rfl (K.OW.q rfl (K.QR.k (v := .bool true) (by kernel_rfl)) ?_)
    refine ⟨.inl (hS.pick [0]), ?_⟩
    refine K.DW.l 3 rfl (by kernel_rfl) rfl (K.OW.q rfl (K.QR.k (v := .bool true) (by kernel_rfl)) ?_)
    refine ⟨.inl (hS.pick [0]), ?_⟩
    refine K.DW.skip 4 (by kernel_rfl) rfl rfl (by kernel_rfl) (by kernel_rfl) (hS.pick [0]) ?_
    refine K.DW.skip 5 (by kernel_rfl) rfl rfl (by kernel_rfl) (by kernel_rfl) (hS.pick [0]) ?_
    refine K.DW.skip 6 (by kernel_rfl) rfl rfl (by kernel_rfl) (by kernel_rfl) (hS.pick [0]) ?_
    refine K.DW.l 7 rfl (by kernel_rfl) rfl (K.OW.q rfl (K.QR.k (v := .bool true) (by kernel_rfl)) ?_)
    refine ⟨.inl (hS.pick [0]), ?_⟩
    refine K.DW.l 8 rfl (by kernel_rfl) rfl (K.OW.q rfl (K.QR.k (v := .bool true) (by kernel_rfl)) ?_)
    refine ⟨.inl (hS.pick [0]), ?_⟩
    refine K.DW.skip 9 (by kernel_rfl) rfl rfl (by kernel_rfl) (by kernel_rfl) (hS.pick [0]) ?_
    refine K.DW.skip 10 (by kernel_rfl) rfl rfl (by kernel_rfl) (by kernel_rfl) (hS.pick [0]) ?_
    refine K.DW.skip 11 (by kernel_rfl) rfl rfl (by kernel_rfl) (by kernel_rfl) (hS.pick [0]) ?_
    refine K.DW.skip 12 (by kernel_rfl) rfl rfl (by kernel_rfl) (by kernel_rfl) (hS.pick [0]) ?_
    refine K.DW.skip 13 (by kernel_rfl) rfl rfl (by kernel_rfl) (by kernel_rfl) (hS.pick [0]) ?_
    refine K.DW.l 14 rfl (by kernel_rfl) rfl (K.OW.q rfl (K.QR.k (v := .bool true) (by kernel_rfl)) ?_)
    refine ⟨.inl (hS.pick [0]), ?_⟩
    refine K.DW.done (by kernel_rfl) ?_
    refine K.thn_normal ?_
    refine K.KW.ifT rfl ?_
    refine K.KW.seq ?_
    -- 2 :45
    refine K.KW.region ?_
    refine K.RW.l rfl (K.OW.kcall hS [] (awake08_ok _) ?_)
    rintro _ w ⟨rfl, c_6⟩
    replace hS := hS.no c_6
    refine K.RW.qs [.bool true] (by kernel_rfl) ?_
    refine K.RW.q rfl (by kernel_rfl) (K.QR.ldN [.slice q qa.length cq, .slice s sa.length cs, .slice m ma.length cm] rfl rfl (by kernel_rfl) (by kernel_rfl) (K.cells (K.cl ((hS.blk 0 rfl hg_3).cell rfl) (K.cl ((hS.blk 0 rfl hg_3).cell rfl) (K.cl ((hS.blk 0 rfl hg_3).cell rfl) K.cl0))))) ?_
    refine K.RW.l (by kernel_rfl) (K.OW.kcall hS [.agg #[.slice q qa.length cq, .slice s sa.length cs, .slice m ma.length cm]] (few8_ok _ _ _ _ _ _ _ _ _ _) ?_)
    rintro _ w ⟨rfl, c_7⟩
    replace hS := hS.no c_7
    rw [hb_5]
    refine K.RW.qs [.bool true, .bool true] (by kernel_rfl) ?_
    refine K.RW.skip rfl (by kernel_rfl) ?_
    refine K.RW.skip rfl (by kernel_rfl) ?_
    refine K.RW.skip rfl (by kernel_rfl) ?_
    refine K.RW.qs [.bool true, .bool true, .bool true] (by kernel_rfl) ?_
    refine K.RW.nil ?_
    refine K.thn_normal ?_
    refine K.KW.ret ?_
    refine K.thn_ret ?_
    refine ⟨.inr rfl, rfl, (.bool true), K.res1 rfl rfl, [], ?_, hS.pick [1]⟩
    exact rfl
  ·
    obtain ⟨hf_8, hf_9, hf_10⟩ := of_decide_eq_true hb_5
    refine ⟨.inl (hS.pick [0]), ?_⟩
    refine K.DW.l 2 rfl (by kernel_rfl) rfl (K.OW.q rfl (K.QR.k (v := .bool false) (by kernel_rfl)) ?_)
    refine ⟨.inl (hS.pick [0]), ?_⟩
    refine K.DW.l 3 rfl (by kernel_rfl) rfl (K.OW.q rfl (K.QR.k (v := .bool false) (by kernel_rfl)) ?_)
    refine ⟨.inl (hS.pick [0]), ?_⟩
    refine K.DW.l 4 rfl (by kernel_rfl) (by kernel_rfl) (K.OW.q rfl (K.QR.k (v := .slice b ls.length cb) (by kernel_rfl)) ?_)
    refine ⟨.inl (hS.pick [0]), ?_⟩
    refine K.DW.l 5 rfl (by kernel_rfl) (by kernel_rfl) (K.OW.q rfl (K.QR.len (P := Try.prog) rfl rfl Try.underlying50) ?_)
    refine ⟨.inl (hS.pick [0]), ?_⟩
    by_cases h_11 : (((ls.length : Nat) : Int) : Int) > (100 : Int)
    ·  -- yes
      refine K.DW.l 6 rfl (by kernel_rfl) (by kernel_rfl) (K.OW.q rfl (K.QR.nice (v := .bool (decide ((((ls.length : Nat) : Int) : Int) > (100 : Int)))) (by kernel_rfl) (congrArg Value.bool (decide_eq_true h_11))) ?_)
      refine ⟨.inl (hS.pick [0]), ?_⟩
      refine K.DW.l 7 rfl (by kernel_rfl) rfl (K.OW.q rfl (K.QR.k (v := .bool true) (by kernel_rfl)) ?_)
      refine ⟨.inl (hS.pick [0]), ?_⟩
      refine K.DW.l 8 rfl (by kernel_rfl) rfl (K.OW.q rfl (K.QR.k (v := .bool true) (by kernel_rfl)) ?_)
      refine ⟨.inl (hS.pick [0]), ?_⟩
      refine K.DW.skip 9 (by kernel_rfl) rfl rfl (by kernel_rfl) (by kernel_rfl) (hS.pick [0]) ?_
      refine K.DW.skip 10 (by kernel_rfl) rfl rfl (by kernel_rfl) (by kernel_rfl) (hS.pick [0]) ?_
      refine K.DW.skip 11 (by kernel_rfl) rfl rfl (by kernel_rfl) (by kernel_rfl) (hS.pick [0]) ?_
      refine K.DW.skip 12 (by kernel_rfl) rfl rfl (by kernel_rfl) (by kernel_rfl) (hS.pick [0]) ?_
      refine K.DW.skip 13 (by kernel_rfl) rfl rfl (by kernel_rfl) (by kernel_rfl) (hS.pick [0]) ?_
      refine K.DW.l 14 rfl (by kernel_rfl) rfl (K.OW.q rfl (K.QR.k (v := .bool true) (by kernel_rfl)) ?_)
      refine ⟨.inl (hS.pick [0]), ?_⟩
      refine K.DW.done (by kernel_rfl) ?_
      refine K.thn_normal ?_
      refine K.KW.ifT rfl ?_
      refine K.KW.seq ?_
      -- 2 :45
      refine K.KW.region ?_
      refine K.RW.l rfl (K.OW.kcall hS [] (awake08_ok _) ?_)
      rintro _ w ⟨rfl, c_12⟩
      replace hS := hS.no c_12
      refine K.RW.qs [.bool true] (by kernel_rfl) ?_
      refine K.RW.q rfl (by kernel_rfl) (K.QR.ldN [.slice q qa.length cq, .slice s sa.length cs, .slice m ma.length cm] rfl rfl (by kernel_rfl) (by kernel_rfl) (K.cells (K.cl ((hS.blk 0 rfl hg_3).cell rfl) (K.cl ((hS.blk 0 rfl hg_3).cell rfl) (K.cl ((hS.blk 0 rfl hg_3).cell rfl) K.cl0))))) ?_
      refine K.RW.l (by kernel_rfl) (K.OW.kcall hS [.agg #[.slice q qa.length cq, .slice s sa.length cs, .slice m ma.length cm]] (few8_ok _ _ _ _ _ _ _ _ _ _) ?_)
      rintro _ w ⟨rfl, c_13⟩
      replace hS := hS.no c_13
      rw [hb_5]
      refine K.RW.qs [.bool false, .bool false, .slice b ls.length cb] (by kernel_rfl) ?_
      refine K.RW.q rfl (by kernel_rfl) (K.QR.len (P := Try.prog) rfl rfl Try.underlying50) ?_
      refine K.RW.q rfl (by kernel_rfl) (K.QR.nice (v := .bool (decide ((((ls.length : Nat) : Int) : Int) > (100 : Int)))) (by kernel_rfl) (congrArg Value.bool (decide_eq_true h_11))) ?_
      refine K.RW.qs [.bool true, .bool true, .bool true] (by kernel_rfl) ?_
      refine K.RW.nil ?_
      refine K.thn_normal ?_
      refine K.KW.ret ?_
      refine K.thn_ret ?_
      refine ⟨.inr rfl, rfl, (.bool true), K.res1 rfl rfl, [], ?_, hS.pick [1]⟩
      exact rfl
    ·  -- no
      refine K.DW.l 6 rfl (by kernel_rfl) (by kernel_rfl) (K.OW.q rfl (K.QR.nice (v := .bool (decide ((((ls.length : Nat) : Int) : Int) > (100 : Int)))) (by kernel_rfl) (congrArg Value.bool (decide_eq_false h_11))) ?_)
      refine ⟨.inl (hS.pick [0]), ?_⟩
      refine K.DW.l 7 rfl (by kernel_rfl) rfl (K.OW.q rfl (K.QR.k (v := .bool false) (by kernel_rfl)) ?_)
      refine ⟨.inl (hS.pick [0]), ?_⟩
      refine K.DW.l 8 rfl (by kernel_rfl) rfl (K.OW.q rfl (K.QR.k (v := .bool false) (by kernel_rfl)) ?_)
      refine ⟨.inl (hS.pick [0]), ?_⟩
      refine K.DW.q 9 (by kernel_rfl) rfl rfl (by kernel_rfl) (by kernel_rfl) (fun w hS => K.QR.ldN [.slice q qa.length cq, .slice s sa.length cs, .slice m ma.length cm] rfl rfl (by kernel_rfl) (by kernel_rfl) (K.cells (K.cl ((hS.blk 0 rfl hg_3).cell rfl) (K.cl ((hS.blk 0 rfl hg_3).cell rfl) (K.cl ((hS.blk 0 rfl hg_3).cell rfl) K.cl0))))) (hS.pick [0]) ?_
      refine K.DW.q 11 (by kernel_rfl) rfl rfl (by kernel_rfl) (by kernel_rfl) (fun w hS => K.QR.ldN [.slice q qa.length cq, .slice s sa.length cs, .slice m ma.length cm] rfl rfl (by kernel_rfl) (by kernel_rfl) (K.cells (K.cl ((hS.blk 0 rfl hg_3).cell rfl) (K.cl ((hS.blk 0 rfl hg_3).cell rfl) (K.cl ((hS.blk 0 rfl hg_3).cell rfl) K.cl0))))) (hS.pick [0]) ?_
      refine K.DW.l 10 rfl (by kernel_rfl) (by kernel_rfl) (K.OW.kcall hS [.agg #[.slice q qa.length cq, .slice s sa.length cs, .slice m ma.length cm]] (right_ok _ _ _ _ _ _ _ sa ma _ (by omega) (by omega) (x2.no hS.chg) (x3.no hS.chg)) ?_)
      rintro _ w ⟨rfl, c_14⟩
      replace hS := hS.no c_14
      cases hb_15 : (risingB sa && risingB (keysP ma))
      ·
        refine ⟨.inl (hS.pick [0]), ?_⟩
        refine K.DW.l 12 rfl (by kernel_rfl) (by kernel_rfl) (K.OW.kcall hS [.agg #[.slice q qa.length cq, .slice s sa.length cs, .slice m ma.length cm]] (rright_ok _ _ _ _ _ _ _ sa ma _ (by omega) (by omega) (x2.no hS.chg) (x3.no hS.chg)) ?_)
        rintro _ w ⟨rfl, c_16⟩
        replace hS := hS.no c_16
        rw [hb_15]
        refine ⟨.inl (hS.pick [0]), ?_⟩
        refine K.DW.l 13 rfl (by kernel_rfl) (by kernel_rfl) (K.OW.q rfl (K.QR.k (v := .bool false) (by kernel_rfl)) ?_)
        refine ⟨.inl (hS.pick [0]), ?_⟩
        refine K.DW.l 14 rfl (by kernel_rfl) rfl (K.OW.q rfl (K.QR.k (v := .bool false) (by kernel_rfl)) ?_)
        refine ⟨.inl (hS.pick [0]), ?_⟩
        refine K.DW.done (by kernel_rfl) ?_
        refine K.thn_normal ?_
        refine K.KW.ifF rfl ?_
        refine K.KW.skip ?_
        refine K.thn_normal ?_
        refine K.KW.seq ?_
        refine K.KW.seq ?_
        -- 3 :47
        refine K.KW.region ?_
        refine K.RW.q rfl rfl (K.QR.ldN [.slice q qa.length cq, .slice s sa.length cs, .slice m ma.length cm] rfl rfl (by kernel_rfl) (by kernel_rfl) (K.cells (K.cl ((hS.blk 0 rfl hg_3).cell rfl) (K.cl ((hS.blk 0 rfl hg_3).cell rfl) (K.cl ((hS.blk 0 rfl hg_3).cell rfl) K.cl0))))) ?_
        refine K.RW.l rfl (K.OW.kcall hS [.agg #[.slice q qa.length cq, .slice s sa.length cs, .slice m ma.length cm]] (rright_ok _ _ _ _ _ _ _ sa ma _ (by omega) (by omega) (x2.no hS.chg) (x3.no hS.chg)) ?_)
        rintro _ w ⟨rfl, c_17⟩
        replace hS := hS.no c_17
        rw [hb_15]
        refine K.RW.qs [.bool true] (by kernel_rfl) ?_
        refine K.RW.nil ?_
        refine K.thn_normal ?_
        refine K.KW.ifT rfl ?_
        refine K.KW.seq ?_
        -- 4 :48
        refine K.KW.region ?_
        refine K.RW.l rfl (K.OW.kcall hS [] (awake08_ok _) ?_)
        rintro _ w ⟨rfl, c_18⟩
        replace hS := hS.no c_18
        refine K.RW.qs [.bool true] (by kernel_rfl) ?_
        refine K.RW.nil ?_
        refine K.thn_normal ?_
        refine K.KW.ret ?_
        refine K.thn_ret ?_
        refine ⟨.inr rfl, rfl, (.bool true), K.res1 rfl rfl, [], ?_, hS.pick [1]⟩
        exact rfl
      ·
        obtain ⟨hr_19, hr_20⟩ := of_right hb_15
        refine ⟨.inl (hS.pick [0]), ?_⟩
        refine K.DW.l 12 rfl (by kernel_rfl) (by kernel_rfl) (K.OW.kcall hS [.agg #[.slice q qa.length cq, .slice s sa.length cs, .slice m ma.length cm]] (rright_ok _ _ _ _ _ _ _ sa ma _ (by omega) (by omega) (x2.no hS.chg) (x3.no hS.chg)) ?_)
        rintro _ w ⟨rfl, c_21⟩
        replace hS := hS.no c_21
        rw [hb_15]
        refine ⟨.inl (hS.pick [0]), ?_⟩
        refine K.DW.l 13 rfl (by kernel_rfl) (by kernel_rfl) (K.OW.q rfl (K.QR.k (v := .bool false) (by kernel_rfl)) ?_)
        refine ⟨.inl (hS.pick [0]), ?_⟩
        refine K.DW.l 14 rfl (by kernel_rfl) rfl (K.OW.q rfl (K.QR.k (v := .bool false) (by kernel_rfl)) ?_)
        refine ⟨.inl (hS.pick [0]), ?_⟩
        refine K.DW.done (by kernel_rfl) ?_
        refine K.thn_normal ?_
        refine K.KW.ifF rfl ?_
        refine K.KW.skip ?_
        refine K.thn_normal ?_
        refine K.KW.seq ?_
        refine K.KW.seq ?_
        -- 3 :47
        refine K.KW.region ?_
        refine K.RW.q rfl rfl (K.QR.ldN [.slice q qa.length cq, .slice s sa.length cs, .slice m ma.length cm] rfl rfl (by kernel_rfl) (by kernel_rfl) (K.cells (K.cl ((hS.blk 0 rfl hg_3).cell rfl) (K.cl ((hS.blk 0 rfl hg_3).cell rfl) (K.cl ((hS.blk 0 rfl hg_3).cell rfl) K.cl0))))) ?_
        refine K.RW.l rfl (K.OW.kcall hS [.agg #[.slice q qa.length cq, .slice s sa.length cs, .slice m ma.length cm]] (rright_ok _ _ _ _ _ _ _ sa ma _ (by omega) (by omega) (x2.no hS.chg) (x3.no hS.chg)) ?_)
        rintro _ w ⟨rfl, c_22⟩
        replace hS := hS.no c_22
        rw [hb_15]
        refine K.RW.qs [.bool false] (by kernel_rfl) ?_
        refine K.RW.nil ?_
        refine K.thn_normal ?_
        refine K.KW.ifF rfl ?_
        refine K.KW.skip ?_
        refine K.thn_normal ?_
        refine K.KW.seq ?_
        -- 5 :50
        refine K.KW.region ?_
        refine K.RW.q rfl rfl (K.QR.ldN [.slice q qa.length cq, .slice s sa.length cs, .slice m ma.length cm] rfl rfl (by kernel_rfl) (by kernel_rfl) (K.cells (K.cl ((hS.blk 0 rfl hg_3).cell rfl) (K.cl ((hS.blk 0 rfl hg_3).cell rfl) (K.cl ((hS.blk 0 rfl hg_3).cell rfl) K.cl0))))) ?_
        refine K.RW.qs [.slice b ls.length cb] (by kernel_rfl) ?_
        refine K.RW.l rfl (K.OW.gcall hS [52, 53, 54, 55] [0, 1] [.agg #[.slice q qa.length cq, .slice s sa.length cs, .slice m ma.length cm], .slice b ls.length cb] (runG_ok _ _ _ _ _ _ _ qa sa ma _ _ ls (by omega) (by omega) (by omega) (by omega) (by assumption) (by assumption) (by omega) _ (fun w h => x1.no h.chg) _ (fun w h => x2.no h.chg) _ (fun w h => x3.no h.chg) _ (fun w h => x4.no h.chg)) ?_)
        clear hS; rintro _ _ w ⟨a1_23, c1_24, a2_25, c2_26, a3_27, c3_28, r_29, c_30, g1_31, g2_32, g3_33, gr_34, rfl, rfl, x1_35, x2_36, x3_37, o_38⟩ hS
        replace hS : K.Sat w0 [g1_31, g2_32, g3_33, gr_34, g_2, fr] w := hS.of (by simp [K.pick, K.nth])
        refine K.RW.qs [.tuple #[.agg #[.slice a1_23 ((runT ⟨qa, sa, ma⟩ ls).1.q.length) c1_24, .slice a2_25 ((runT ⟨qa, sa, ma⟩ ls).1.s.length) c2_26, .slice a3_27 ((runT ⟨qa, sa, ma⟩ ls).1.m.length) c3_28], .slice r_29 ((runT ⟨qa, sa, ma⟩ ls).2.length) c_30], .agg #[.slice a1_23 ((runT ⟨qa, sa, ma⟩ ls).1.q.length) c1_24, .slice a2_25 ((runT ⟨qa, sa, ma⟩ ls).1.s.length) c2_26, .slice a3_27 ((runT ⟨qa, sa, ma⟩ ls).1.m.length) c3_28], .slice r_29 ((runT ⟨qa, sa, ma⟩ ls).2.length) c_30] (by kernel_rfl) ?_
        refine K.RW.l rfl (K.OW.gnew 42 [.slice none 0 0, .slice none 0 0, .slice none 0 0] hS ?_)
        clear hS; intro w r_39 g_40 hg_41 hS
        refine K.RW.l rfl (K.OW.gst 0 [.slice a1_23 ((runT ⟨qa, sa, ma⟩ ls).1.q.length) c1_24, .slice a2_25 ((runT ⟨qa, sa, ma⟩ ls).1.s.length) c2_26, .slice a3_27 ((runT ⟨qa, sa, ma⟩ ls).1.m.length) c3_28] [.slice a1_23 ((runT ⟨qa, sa, ma⟩ ls).1.q.length) c1_24, .slice a2_25 ((runT ⟨qa, sa, ma⟩ ls).1.s.length) c2_26, .slice a3_27 ((runT ⟨qa, sa, ma⟩ ls).1.m.length) c3_28] hS hg_41 ?_)
        clear hS; intro w g_42 hg_43 hS
        replace hS : K.Sat w0 [g_42, g1_31, g2_32, g3_33, gr_34, g_2, fr] w := hS
        refine K.RW.qs [.slice r_29 ((runT ⟨qa, sa, ma⟩ ls).2.length) c_30] (by kernel_rfl) ?_
        refine K.RW.nil ?_
        refine K.thn_normal ?_
        refine K.KW.seq ?_
        refine K.KW.seq ?_
        -- 6 :51
        refine K.KW.region ?_
        refine K.RW.qs [.slice r_29 ((runT ⟨qa, sa, ma⟩ ls).2.length) c_30] (by kernel_rfl) ?_
        refine K.RW.q rfl rfl (K.QR.len (P := Try.prog) rfl rfl Try.underlying47) ?_
        refine K.RW.qs [.slice b ls.length cb] (by kernel_rfl) ?_
        refine K.RW.q rfl rfl (K.QR.len (P := Try.prog) rfl rfl Try.underlying50) ?_
        refine K.RW.q rfl rfl (K.QR.nice (v := .bool (((((runT ⟨qa, sa, ma⟩ ls).2.length : Nat) : Int) : Int) != (((ls.length : Nat) : Int) : Int))) (by kernel_rfl) (congrArg Value.bool (bne_eq_false_iff_eq.2 (by rw [runT_len])))) ?_
        refine K.RW.nil ?_
        refine K.thn_normal ?_
        refine K.KW.ifF rfl ?_
        refine K.KW.skip ?_
        refine K.thn_normal ?_
        refine K.KW.cut (fun F_ w_ => ∃ (b7 : Nat) (b8 : Nat) (bb7 : K.Cs) (bb8 : K.Cs), K.Sl F_ [(0, .agg #[.slice q qa.length cq, .slice s sa.length cs, .slice m ma.length cm]), (1, .slice b ls.length cb), (4, .bool false), (5, .pointer (some ⟨r_39, 0, none⟩)), (6, .slice r_29 ((runT ⟨qa, sa, ma⟩ ls).2.length) c_30), (7, .pointer (some ⟨b7, 0, none⟩)), (8, .pointer (some ⟨b8, 0, none⟩)), (128, undef)] ∧ bb7 = [K.pt b7 42 [.slice q qa.length cq, .slice s sa.length cs, .slice m ma.length cm]] ∧ bb8 = [K.pt b8 42 [.slice q qa.length cq, .slice s sa.length cs, .slice m ma.length cm]] ∧ K.Sat w0 [g_42, g1_31, g2_32, g3_33, gr_34, g_2, fr, bb7, bb8] w_) ?_ ?_
        · -- ahead
          -- 8 :54
          refine K.KW.gdrawn [5] hS (by kernel_rfl) ?_
          clear hS; intro w hS
          refine K.DW.q 0 (by kernel_rfl) rfl rfl (by kernel_rfl) rfl (fun w hS => K.QR.ldN [.slice q qa.length cq, .slice s sa.length cs, .slice m ma.length cm] rfl rfl (by kernel_rfl) (by kernel_rfl) (K.cells (K.cl ((hS.blk 0 rfl hg_3).cell rfl) (K.cl ((hS.blk 0 rfl hg_3).cell rfl) (K.cl ((hS.blk 0 rfl hg_3).cell rfl) K.cl0))))) (hS.pick [5]) ?_
          refine K.DW.q 1 (by kernel_rfl) rfl rfl (by kernel_rfl) rfl (fun w hS => K.QR.ldN [.slice q qa.length cq, .slice s sa.length cs, .slice m ma.length cm] rfl rfl (by kernel_rfl) (by kernel_rfl) (K.cells (K.cl ((hS.blk 0 rfl hg_3).cell rfl) (K.cl ((hS.blk 0 rfl hg_3).cell rfl) (K.cl ((hS.blk 0 rfl hg_3).cell rfl) K.cl0))))) (hS.pick [5]) ?_
          refine K.DW.l2 2 3 rfl rfl (by kernel_rfl) rfl rfl ?_ ?_
          ·  -- first 2
            refine (K.OW.gnew 42 [.slice none 0 0, .slice none 0 0, .slice none 0 0] hS ?_)
            clear hS; intro w r_44 g_45 hg_46 hS
            refine ⟨.inl (hS.pick [6]), ?_⟩
            refine K.DW.l 3 rfl (by kernel_rfl) rfl (K.OW.gnew 42 [.slice none 0 0, .slice none 0 0, .slice none 0 0] hS ?_)
            clear hS; intro w r_47 g_48 hg_49 hS
            refine ⟨.inl (hS.pick [7]), ?_⟩
            refine K.DW.l 4 rfl (by kernel_rfl) rfl (K.OW.gst 1 [.slice q qa.length cq, .slice s sa.length cs, .slice m ma.length cm] [.slice q qa.length cq, .slice s sa.length cs, .slice m ma.length cm] hS hg_46 ?_)
            clear hS; intro w g_50 hg_51 hS
            replace hS : K.Sat w0 [g_48, g_50, g_42, g1_31, g2_32, g3_33, gr_34, g_2, fr] w := hS
            refine ⟨.inl (hS.pick [7]), ?_⟩
            refine K.DW.l 5 rfl (by kernel_rfl) rfl (K.OW.gst 0 [.slice q qa.length cq, .slice s sa.length cs, .slice m ma.length cm] [.slice q qa.length cq, .slice s sa.length cs, .slice m ma.length cm] hS hg_49 ?_)
            clear hS; intro w g_52 hg_53 hS
            replace hS : K.Sat w0 [g_52, g_50, g_42, g1_31, g2_32, g3_33, gr_34, g_2, fr] w := hS
            refine ⟨.inr (by kernel_rfl), ?_⟩
            refine K.DW.done (by kernel_rfl) ?_
            refine K.thn_normal ?_
            exact ⟨r_44, r_47, g_50, g_52, ⟨by rfl, by rfl, by rfl, by rfl, by rfl, by rfl, by rfl, by rfl, trivial⟩, hg_51, hg_53, hS.pick [2, 3, 4, 5, 6, 7, 8, 1, 0]⟩
          ·  -- first 3
            refine (K.OW.gnew 42 [.slice none 0 0, .slice none 0 0, .slice none 0 0] hS ?_)
            clear hS; intro w r_54 g_55 hg_56 hS
            refine ⟨.inl (hS.pick [6]), ?_⟩
            refine K.DW.l 2 rfl (by kernel_rfl) rfl (K.OW.gnew 42 [.slice none 0 0, .slice none 0 0, .slice none 0 0] hS ?_)
            clear hS; intro w r_57 g_58 hg_59 hS
            refine ⟨.inl (hS.pick [7]), ?_⟩
            refine K.DW.l 4 rfl (by kernel_rfl) rfl (K.OW.gst 0 [.slice q qa.length cq, .slice s sa.length cs, .slice m ma.length cm] [.slice q qa.length cq, .slice s sa.length cs, .slice m ma.length cm] hS hg_59 ?_)
            clear hS; intro w g_60 hg_61 hS
            replace hS : K.Sat w0 [g_60, g_55, g_42, g1_31, g2_32, g3_33, gr_34, g_2, fr] w := hS
            refine ⟨.inl (hS.pick [7]), ?_⟩
            refine K.DW.l 5 rfl (by kernel_rfl) rfl (K.OW.gst 1 [.slice q qa.length cq, .slice s sa.length cs, .slice m ma.length cm] [.slice q qa.length cq, .slice s sa.length cs, .slice m ma.length cm] hS hg_56 ?_)
            clear hS; intro w g_62 hg_63 hS
            replace hS : K.Sat w0 [g_60, g_62, g_42, g1_31, g2_32, g3_33, gr_34, g_2, fr] w := hS
            refine ⟨.inr (by kernel_rfl), ?_⟩
            refine K.DW.done (by kernel_rfl) ?_
            refine K.thn_normal ?_
            exact ⟨r_57, r_54, g_60, g_62, ⟨by rfl, by rfl, by rfl, by rfl, by rfl, by rfl, by rfl, by rfl, trivial⟩, hg_61, hg_63, hS.pick [2, 3, 4, 5, 6, 7, 8, 0, 1]⟩
        · -- behind
          clear hS
          intro F_64 w hI
          obtain ⟨b7, b8, bb7, bb8, sl_65, x_66, x_67, hS⟩ := hI
          rw [← K.Sl.puts sl_65]; clear sl_65
          refine K.KW.seq ?_
          refine K.KW.seq ?_
          -- 9 :55
          refine K.KW.region ?_
          refine K.RW.qs [.int .i64 0] (by kernel_rfl) ?_
          refine K.RW.nil ?_
          refine K.thn_normal ?_
          refine K.KW.block ?_
          obtain ⟨z_68, hz_69⟩ : ∃ z : K.Cs, z = [] := ⟨_, rfl⟩
          replace hS : K.Sat w0 [z_68, g_42, g1_31, g2_32, g3_33, gr_34, g_2, fr, bb7, bb8] w := hS.of (by simp [hz_69])
          have o_70 : K.OwnG z_68 43 1 none 0 0 [] := by rw [hz_69]; exact K.OwnG.nil _ _
          obtain ⟨z_71, hz_72⟩ : ∃ z : K.Cs, z = [] := ⟨_, rfl⟩
          replace hS : K.Sat w0 [z_71, z_68, g_42, g1_31, g2_32, g3_33, gr_34, g_2, fr, bb7, bb8] w := hS.of (by simp [hz_72])
          have o_73 : K.OwnG z_71 43 1 none 0 0 [] := by rw [hz_72]; exact K.OwnG.nil _ _
          obtain ⟨z_74, hz_75⟩ : ∃ z : K.Cs, z = [] := ⟨_, rfl⟩
          replace hS : K.Sat w0 [z_74, z_71, z_68, g_42, g1_31, g2_32, g3_33, gr_34, g_2, fr, bb7, bb8] w := hS.of (by simp [hz_75])
          have o_76 : K.OwnG z_74 121 2 none 0 0 [] := by rw [hz_75]; exact K.OwnG.nil _ _
          obtain ⟨z_77, hz_78⟩ : ∃ z : K.Cs, z = [] := ⟨_, rfl⟩
          replace hS : K.Sat w0 [z_77, z_74, z_71, z_68, g_42, g1_31, g2_32, g3_33, gr_34, g_2, fr, bb7, bb8] w := hS.of (by simp [hz_78])
          have o_79 : K.OwnG z_77 43 1 none 0 0 [] := by rw [hz_78]; exact K.OwnG.nil _ _
          obtain ⟨z_80, hz_81⟩ : ∃ z : K.Cs, z = [] := ⟨_, rfl⟩
          replace hS : K.Sat w0 [z_80, z_77, z_74, z_71, z_68, g_42, g1_31, g2_32, g3_33, gr_34, g_2, fr, bb7, bb8] w := hS.of (by simp [hz_81])
          have o_82 : K.OwnG z_80 43 1 none 0 0 [] := by rw [hz_81]; exact K.OwnG.nil _ _
          obtain ⟨z_83, hz_84⟩ : ∃ z : K.Cs, z = [] := ⟨_, rfl⟩
          replace hS : K.Sat w0 [z_83, z_80, z_77, z_74, z_71, z_68, g_42, g1_31, g2_32, g3_33, gr_34, g_2, fr, bb7, bb8] w := hS.of (by simp [hz_84])
          have o_85 : K.OwnG z_83 121 2 none 0 0 [] := by rw [hz_84]; exact K.OwnG.nil _ _
          refine K.KW.loop (fun m_ F_ w_ => ∃ (j : Nat) (S : StM) (yq : Option Addr) (yd : Nat) (ys : Option Addr) (ye : Nat) (ym : Option Addr) (yf : Nat) (zq : Option Addr) (zd : Nat) (zs : Option Addr) (ze : Nat) (zm : Option Addr) (zf : Nat) (yb : K.Cs) (yg : K.Cs) (yh : K.Cs) (yi : K.Cs) (zb : K.Cs) (zg : K.Cs) (zh : K.Cs) (zi : K.Cs), m_ = ls.length - j ∧ K.Sl F_ [(0, .agg #[.slice q qa.length cq, .slice s sa.length cs, .slice m ma.length cm]), (1, .slice b ls.length cb), (5, .pointer (some ⟨r_39, 0, none⟩)), (6, .slice r_29 ((runT ⟨qa, sa, ma⟩ ls).2.length) c_30), (7, .pointer (some ⟨b7, 0, none⟩)), (8, .pointer (some ⟨b8, 0, none⟩)), (9, .int .i64 ((j : Nat) : Int)), (128, undef)] ∧ j ≤ ls.length ∧ (runT ⟨qa, sa, ma⟩ (ls.take j)).1 = S ∧ S.q.length ≤ 100 + j ∧ S.s.length ≤ 100 + j ∧ S.m.length ≤ 100 + j ∧ rising S.s ∧ rising (keysP S.m) ∧ S.q.length ≤ yd ∧ S.q.length ≤ zd ∧ yb = [K.pt b7 42 [.slice yq S.q.length yd, .slice ys S.s.length ye, .slice ym S.m.length yf]] ∧ (∀ w, K.Sat w0 [yg] w → K.RowE w yq S.q.length 1 (fun i => cU32 (S.q.getD i 0))) ∧ (∀ w, K.Sat w0 [yh] w → K.RowE w ys S.s.length 1 (fun i => cU32 (S.s.getD i 0))) ∧ (∀ w, K.Sat w0 [yi] w → K.RowE w ym S.m.length 2 (fun i => cPair (S.m.getD i p0))) ∧ zb = [K.pt b8 42 [.slice zq S.q.length zd, .slice zs S.s.length ze, .slice zm S.m.length zf]] ∧ (∀ w, K.Sat w0 [zg] w → K.RowE w zq S.q.length 1 (fun i => cU32 (S.q.getD i 0))) ∧ (∀ w, K.Sat w0 [zh] w → K.RowE w zs S.s.length 1 (fun i => cU32 (S.s.getD i 0))) ∧ (∀ w, K.Sat w0 [zi] w → K.RowE w zm S.m.length 2 (fun i => cPair (S.m.getD i p0))) ∧ K.Sat w0 [zi, zh, zg, yi, yh, yg, g_42, g1_31, g2_32, g3_33, gr_34, g_2, fr, yb, zb] w_) ((fun (j : Nat) (S : StM) (yq : Option Addr) (yd : Nat) (ys : Option Addr) (ye : Nat) (ym : Option Addr) (yf : Nat) (zq : Option Addr) (zd : Nat) (zs : Option Addr) (ze : Nat) (zm : Option Addr) (zf : Nat) => ls.length - j) 0 ⟨qa, sa, ma⟩ q cq s cs m cm q cq s cs m cm) ?_ ?_
          · -- begins
            exact ⟨0, ⟨qa, sa, ma⟩, q, cq, s, cs, m, cm, q, cq, s, cs, m, cm, bb7, z_68, z_71, z_74, bb8, z_77, z_80, z_83, rfl, ⟨by rfl, by rfl, by rfl, by rfl, by rfl, by rfl, by rfl, by rfl, trivial⟩, (by omega), (rfl), (by show qa.length ≤ _; omega), (by show sa.length ≤ _; omega), (by show ma.length ≤ _; omega), (by assumption), (by assumption), (hc), (hc), x_66, (fun w h => x1.no h.chg), (fun w h => x2.no h.chg), (fun w h => x3.no h.chg), x_67, (fun w h => x1.no h.chg), (fun w h => x2.no h.chg), (fun w h => x3.no h.chg), hS.pick [0, 1, 2, 3, 4, 5, 6, 7, 8, 9, 10, 11, 12, 13, 14]⟩
          · -- a round
            clear hS
            intro m_86 F_87 w hI
            obtain ⟨j, S, yq, yd, ys, ye, ym, yf, zq, zd, zs, ze, zm, zf, yb, yg, yh, yi, zb, zg, zh, zi, rfl, sl_88, p_89, hrun, p_90, p_91, p_92, p_93, p_94, p_95, p_96, x_97, x_98, x_99, x_100, x_101, x_102, x_103, x_104, hS⟩ := hI
            rw [← K.Sl.puts sl_88]; clear sl_88
            refine K.KW.seq ?_
            refine K.KW.seq ?_
            -- 10 :55
            refine K.KW.region ?_
            refine K.RW.qs [.int .i64 ((j : Nat) : Int), .slice b ls.length cb] (by kernel_rfl) ?_
            refine K.RW.q rfl rfl (K.QR.len (P := Try.prog) rfl rfl Try.underlying50) ?_
            by_cases h_105 : (((j : Nat) : Int) : Int) < (((ls.length : Nat) : Int) : Int)
            ·  -- yes
              refine K.RW.q rfl rfl (K.QR.nice (v := .bool (decide ((((j : Nat) : Int) : Int) < (((ls.length : Nat) : Int) : Int)))) (by kernel_rfl) (congrArg Value.bool (decide_eq_true h_105))) ?_
              refine K.RW.nil ?_
              refine K.thn_normal ?_
              refine K.KW.ifT rfl ?_
              refine K.KW.skip ?_
              refine K.thn_normal ?_
              refine K.KW.seq ?_
              refine K.KW.block ?_
              refine K.KW.cut (fun F_ w_ => ∃ (uB : Nat) (uR : Nat) (uq : Option Addr) (ud : Nat) (us : Option Addr) (ue : Nat) (um : Option Addr) (uf : Nat) (ub : K.Cs) (ur : K.Cs) (ug : K.Cs) (uh : K.Cs) (ui : K.Cs), K.Sl F_ [(0, .agg #[.slice q qa.length cq, .slice s sa.length cs, .slice m ma.length cm]), (1, .slice b ls.length cb), (5, .pointer (some ⟨r_39, 0, none⟩)), (6, .slice r_29 ((runT ⟨qa, sa, ma⟩ ls).2.length) c_30), (7, .pointer (some ⟨b7, 0, none⟩)), (8, .pointer (some ⟨b8, 0, none⟩)), (9, .int .i64 ((j : Nat) : Int)), (10, .pointer (some ⟨uB, 0, none⟩)), (11, .pointer (some ⟨uR, 0, none⟩)), (128, undef)] ∧ (applyT ⟨S.q, S.s, S.m⟩ (ls.getD j op0).kind (ls.getD j op0).key (ls.getD j op0).val).1.q.length ≤ ud ∧ ub = [K.pt uB 42 [.slice uq ((applyT ⟨S.q, S.s, S.m⟩ (ls.getD j op0).kind (ls.getD j op0).key (ls.getD j op0).val).1.q.length) ud, .slice us ((applyT ⟨S.q, S.s, S.m⟩ (ls.getD j op0).kind (ls.getD j op0).key (ls.getD j op0).val).1.s.length) ue, .slice um ((applyT ⟨S.q, S.s, S.m⟩ (ls.getD j op0).kind (ls.getD j op0).key (ls.getD j op0).val).1.m.length) uf]] ∧ ur = [K.pt uR 52 [.int .i64 ((applyT ⟨S.q, S.s, S.m⟩ (ls.getD j op0).kind (ls.getD j op0).key (ls.getD j op0).val).2.1), .int .u32 ((applyT ⟨S.q, S.s, S.m⟩ (ls.getD j op0).kind (ls.getD j op0).key (ls.getD j op0).val).2.2)]] ∧ (∀ w, K.Sat w0 [ug] w → K.RowE w uq (((applyT ⟨S.q, S.s, S.m⟩ (ls.getD j op0).kind (ls.getD j op0).key (ls.getD j op0).val).1.q).length) 1 (fun i => cU32 (((applyT ⟨S.q, S.s, S.m⟩ (ls.getD j op0).kind (ls.getD j op0).key (ls.getD j op0).val).1.q).getD i 0))) ∧ (∀ w, K.Sat w0 [uh] w → K.RowE w us (((applyT ⟨S.q, S.s, S.m⟩ (ls.getD j op0).kind (ls.getD j op0).key (ls.getD j op0).val).1.s).length) 1 (fun i => cU32 (((applyT ⟨S.q, S.s, S.m⟩ (ls.getD j op0).kind (ls.getD j op0).key (ls.getD j op0).val).1.s).getD i 0))) ∧ (∀ w, K.Sat w0 [ui] w → K.RowE w um (((applyT ⟨S.q, S.s, S.m⟩ (ls.getD j op0).kind (ls.getD j op0).key (ls.getD j op0).val).1.m).length) 2 (fun i => cPair (((applyT ⟨S.q, S.s, S.m⟩ (ls.getD j op0).kind (ls.getD j op0).key (ls.getD j op0).val).1.m).getD i p0))) ∧ K.Sat w0 [yi, yh, yg, g_42, g1_31, g2_32, g3_33, gr_34, g_2, fr, yb, zb, ub, ur, ug, uh, ui] w_) ?_ ?_
              · -- ahead
                -- 12 :56
                obtain ⟨b_106, of_107, rfl, _⟩ := x4.at_ (by omega)
                refine K.KW.gdrawn [14] hS (by kernel_rfl) ?_
                clear hS; intro w hS
                refine K.DW.q 0 (by kernel_rfl) rfl rfl (by kernel_rfl) rfl (fun w hS => K.QR.ldN [.slice zq S.q.length zd, .slice zs S.s.length ze, .slice zm S.m.length zf] rfl rfl (by kernel_rfl) (by kernel_rfl) (K.cells (K.cl ((hS.blk 0 rfl x_101).cell rfl) (K.cl ((hS.blk 0 rfl x_101).cell rfl) (K.cl ((hS.blk 0 rfl x_101).cell rfl) K.cl0))))) (hS.pick [14]) ?_
                refine K.DW.q 1 (by kernel_rfl) rfl rfl (by kernel_rfl) rfl (fun w hS => K.QR.k (v := .slice (some ⟨b_106, of_107, none⟩) ls.length cb) (by kernel_rfl)) (hS.pick [14]) ?_
                refine K.DW.q 2 (by kernel_rfl) rfl rfl (by kernel_rfl) rfl (fun w hS => K.QR.k (v := .int .i64 ((j : Nat) : Int)) (by kernel_rfl)) (hS.pick [14]) ?_
                refine K.DW.q 3 (by kernel_rfl) rfl rfl (by kernel_rfl) rfl (fun w hS => K.QR.ix (of_107 + j * 3) 3 rfl rfl rfl Try.underlying50 (by kernel_rfl) (by omega) (by first | (simp; done) | omega | (simp; omega))) (hS.pick [14]) ?_
                refine K.DW.q 4 (by kernel_rfl) rfl rfl (by kernel_rfl) rfl (fun w hS => K.QR.ldN [.int .i64 ((ls.getD j op0).kind), .int .u32 ((ls.getD j op0).key), .int .u32 ((ls.getD j op0).val)] rfl rfl (by kernel_rfl) (by kernel_rfl) (K.cells (K.cl ((x4.no hS.chg).ld j (by omega) 0 _ rfl) (K.cl ((x4.no hS.chg).ld j (by omega) 1 _ rfl) (K.cl ((x4.no hS.chg).ld j (by omega) 2 _ rfl) K.cl0))))) (hS.pick [14]) ?_
                refine K.DW.l3 5 9 10 rfl rfl rfl (by kernel_rfl) rfl rfl rfl ?_ ?_ ?_
                ·  -- first 5
                  refine (K.OW.gcall hS [2, 1, 0] [3, 4, 5, 6, 7, 8, 9, 10, 11, 12, 13, 14] [.agg #[.slice zq S.q.length zd, .slice zs S.s.length ze, .slice zm S.m.length zf], .agg #[.int .i64 ((ls.getD j op0).kind), .int .u32 ((ls.getD j op0).key), .int .u32 ((ls.getD j op0).val)]] (applyG_ok _ _ _ _ _ _ _ S.q S.s S.m ((ls.getD j op0).kind) ((ls.getD j op0).key) ((ls.getD j op0).val) (by omega) (by omega) (by omega) (by assumption) (by assumption) (by omega) _ _ _ x_102 x_103 x_104) ?_)
                  clear hS; rintro _ _ w ⟨a1_108, c1_109, a2_110, c2_111, a3_112, c3_113, g1_114, g2_115, g3_116, rfl, rfl, x1_117, x2_118, x3_119, hc_120⟩ hS
                  replace hS : K.Sat w0 [g1_114, g2_115, g3_116, yi, yh, yg, g_42, g1_31, g2_32, g3_33, gr_34, g_2, fr, yb, zb] w := hS
                  obtain ⟨h_121, h_122, h_123, h_124, h_125⟩ := applyT_okE (q := S.q) (s := S.s) (m := S.m) (kind := (ls.getD j op0).kind) (key := (ls.getD j op0).key) (val := (ls.getD j op0).val) (by assumption) (by assumption)
                  refine ⟨.inl (hS.pick [14]), ?_⟩
                  refine K.DW.q 6 (by kernel_rfl) rfl rfl (by kernel_rfl) rfl (fun w hS => K.QR.k (v := .tuple #[.agg #[.slice a1_108 ((applyT ⟨S.q, S.s, S.m⟩ ((ls.getD j op0).kind) ((ls.getD j op0).key) ((ls.getD j op0).val)).1.q.length) c1_109, .slice a2_110 ((applyT ⟨S.q, S.s, S.m⟩ ((ls.getD j op0).kind) ((ls.getD j op0).key) ((ls.getD j op0).val)).1.s.length) c2_111, .slice a3_112 ((applyT ⟨S.q, S.s, S.m⟩ ((ls.getD j op0).kind) ((ls.getD j op0).key) ((ls.getD j op0).val)).1.m.length) c3_113], .agg #[.int .i64 ((applyT ⟨S.q, S.s, S.m⟩ ((ls.getD j op0).kind) ((ls.getD j op0).key) ((ls.getD j op0).val)).2.1), .int .u32 ((applyT ⟨S.q, S.s, S.m⟩ ((ls.getD j op0).kind) ((ls.getD j op0).key) ((ls.getD j op0).val)).2.2)]]) (by kernel_rfl)) (hS.pick [14]) ?_
                  refine K.DW.q 7 (by kernel_rfl) rfl rfl (by kernel_rfl) rfl (fun w hS => K.QR.k (v := .agg #[.slice a1_108 ((applyT ⟨S.q, S.s, S.m⟩ ((ls.getD j op0).kind) ((ls.getD j op0).key) ((ls.getD j op0).val)).1.q.length) c1_109, .slice a2_110 ((applyT ⟨S.q, S.s, S.m⟩ ((ls.getD j op0).kind) ((ls.getD j op0).key) ((ls.getD j op0).val)).1.s.length) c2_111, .slice a3_112 ((applyT ⟨S.q, S.s, S.m⟩ ((ls.getD j op0).kind) ((ls.getD j op0).key) ((ls.getD j op0).val)).1.m.length) c3_113]) (by kernel_rfl)) (hS.pick [14]) ?_
                  refine K.DW.q 8 (by kernel_rfl) rfl rfl (by kernel_rfl) rfl (fun w hS => K.QR.k (v := .agg #[.int .i64 ((applyT ⟨S.q, S.s, S.m⟩ ((ls.getD j op0).kind) ((ls.getD j op0).key) ((ls.getD j op0).val)).2.1), .int .u32 ((applyT ⟨S.q, S.s, S.m⟩ ((ls.getD j op0).kind) ((ls.getD j op0).key) ((ls.getD j op0).val)).2.2)]) (by kernel_rfl)) (hS.pick [14]) ?_
                  refine K.DW.l2 9 10 rfl rfl (by kernel_rfl) rfl rfl ?_ ?_
                  ·  -- first 9
                    refine (K.OW.gnew 42 [.slice none 0 0, .slice none 0 0, .slice none 0 0] hS ?_)
                    clear hS; intro w r_126 g_127 hg_128 hS
                    refine ⟨.inl (hS.pick [15]), ?_⟩
                    refine K.DW.l 10 rfl (by kernel_rfl) rfl (K.OW.gnew 52 [.int .i64 0, .int .u32 0] hS ?_)
                    clear hS; intro w r_129 g_130 hg_131 hS
                    refine ⟨.inl (hS.pick [16]), ?_⟩
                    refine K.DW.l 11 rfl (by kernel_rfl) rfl (K.OW.gst 1 [.slice a1_108 ((applyT ⟨S.q, S.s, S.m⟩ ((ls.getD j op0).kind) ((ls.getD j op0).key) ((ls.getD j op0).val)).1.q.length) c1_109, .slice a2_110 ((applyT ⟨S.q, S.s, S.m⟩ ((ls.getD j op0).kind) ((ls.getD j op0).key) ((ls.getD j op0).val)).1.s.length) c2_111, .slice a3_112 ((applyT ⟨S.q, S.s, S.m⟩ ((ls.getD j op0).kind) ((ls.getD j op0).key) ((ls.getD j op0).val)).1.m.length) c3_113] [.slice a1_108 ((applyT ⟨S.q, S.s, S.m⟩ ((ls.getD j op0).kind) ((ls.getD j op0).key) ((ls.getD j op0).val)).1.q.length) c1_109, .slice a2_110 ((applyT ⟨S.q, S.s, S.m⟩ ((ls.getD j op0).kind) ((ls.getD j op0).key) ((ls.getD j op0).val)).1.s.length) c2_111, .slice a3_112 ((applyT ⟨S.q, S.s, S.m⟩ ((ls.getD j op0).kind) ((ls.getD j op0).key) ((ls.getD j op0).val)).1.m.length) c3_113] hS hg_128 ?_)
                    clear hS; intro w g_132 hg_133 hS
                    replace hS : K.Sat w0 [g_130, g_132, g1_114, g2_115, g3_116, yi, yh, yg, g_42, g1_31, g2_32, g3_33, gr_34, g_2, fr, yb, zb] w := hS
                    refine ⟨.inl (hS.pick [16]), ?_⟩
                    refine K.DW.l 12 rfl (by kernel_rfl) rfl (K.OW.gst 0 [.int .i64 ((applyT ⟨S.q, S.s, S.m⟩ ((ls.getD j op0).kind) ((ls.getD j op0).key) ((ls.getD j op0).val)).2.1), .int .u32 ((applyT ⟨S.q, S.s, S.m⟩ ((ls.getD j op0).kind) ((ls.getD j op0).key) ((ls.getD j op0).val)).2.2)] [.int .i64 ((applyT ⟨S.q, S.s, S.m⟩ ((ls.getD j op0).kind) ((ls.getD j op0).key) ((ls.getD j op0).val)).2.1), .int .u32 ((applyT ⟨S.q, S.s, S.m⟩ ((ls.getD j op0).kind) ((ls.getD j op0).key) ((ls.getD j op0).val)).2.2)] hS hg_131 ?_)
                    clear hS; intro w g_134 hg_135 hS
                    replace hS : K.Sat w0 [g_134, g_132, g1_114, g2_115, g3_116, yi, yh, yg, g_42, g1_31, g2_32, g3_33, gr_34, g_2, fr, yb, zb] w := hS
                    refine ⟨.inr (by kernel_rfl), ?_⟩
                    refine K.DW.done (by kernel_rfl) ?_
                    refine K.thn_normal ?_
                    exact ⟨r_126, r_129, a1_108, c1_109, a2_110, c2_111, a3_112, c3_113, g_132, g_134, g1_114, g2_115, g3_116, ⟨by rfl, by rfl, by rfl, by rfl, by rfl, by rfl, by rfl, by rfl, by rfl, by rfl, trivial⟩, (by assumption), hg_133, hg_135, x1_117, x2_118, x3_119, hS.pick [5, 6, 7, 8, 9, 10, 11, 12, 13, 14, 15, 16, 1, 0, 2, 3, 4]⟩
                  ·  -- first 10
                    refine (K.OW.gnew 52 [.int .i64 0, .int .u32 0] hS ?_)
                    clear hS; intro w r_136 g_137 hg_138 hS
                    refine ⟨.inl (hS.pick [15]), ?_⟩
                    refine K.DW.l 9 rfl (by kernel_rfl) rfl (K.OW.gnew 42 [.slice none 0 0, .slice none 0 0, .slice none 0 0] hS ?_)
                    clear hS; intro w r_139 g_140 hg_141 hS
                    refine ⟨.inl (hS.pick [16]), ?_⟩
                    refine K.DW.l 11 rfl (by kernel_rfl) rfl (K.OW.gst 0 [.slice a1_108 ((applyT ⟨S.q, S.s, S.m⟩ ((ls.getD j op0).kind) ((ls.getD j op0).key) ((ls.getD j op0).val)).1.q.length) c1_109, .slice a2_110 ((applyT ⟨S.q, S.s, S.m⟩ ((ls.getD j op0).kind) ((ls.getD j op0).key) ((ls.getD j op0).val)).1.s.length) c2_111, .slice a3_112 ((applyT ⟨S.q, S.s, S.m⟩ ((ls.getD j op0).kind) ((ls.getD j op0).key) ((ls.getD j op0).val)).1.m.length) c3_113] [.slice a1_108 ((applyT ⟨S.q, S.s, S.m⟩ ((ls.getD j op0).kind) ((ls.getD j op0).key) ((ls.getD j op0).val)).1.q.length) c1_109, .slice a2_110 ((applyT ⟨S.q, S.s, S.m⟩ ((ls.getD j op0).kind) ((ls.getD j op0).key) ((ls.getD j op0).val)).1.s.length) c2_111, .slice a3_112 ((applyT ⟨S.q, S.s, S.m⟩ ((ls.getD j op0).kind) ((ls.getD j op0).key) ((ls.getD j op0).val)).1.m.length) c3_113] hS hg_141 ?_)
                    clear hS; intro w g_142 hg_143 hS
                    replace hS : K.Sat w0 [g_142, g_137, g1_114, g2_115, g3_116, yi, yh, yg, g_42, g1_31, g2_32, g3_33, gr_34, g_2, fr, yb, zb] w := hS
                    refine ⟨.inl (hS.pick [16]), ?_⟩
                    refine K.DW.l 12 rfl (by kernel_rfl) rfl (K.OW.gst 1 [.int .i64 ((applyT ⟨S.q, S.s, S.m⟩ ((ls.getD j op0).kind) ((ls.getD j op0).key) ((ls.getD j op0).val)).2.1), .int .u32 ((applyT ⟨S.q, S.s, S.m⟩ ((ls.getD j op0).kind) ((ls.getD j op0).key) ((ls.getD j op0).val)).2.2)] [.int .i64 ((applyT ⟨S.q, S.s, S.m⟩ ((ls.getD j op0).kind) ((ls.getD j op0).key) ((ls.getD j op0).val)).2.1), .int .u32 ((applyT ⟨S.q, S.s, S.m⟩ ((ls.getD j op0).kind) ((ls.getD j op0).key) ((ls.getD j op0).val)).2.2)] hS hg_138 ?_)
                    clear hS; intro w g_144 hg_145 hS
                    replace hS : K.Sat w0 [g_142, g_144, g1_114, g2_115, g3_116, yi, yh, yg, g_42, g1_31, g2_32, g3_33, gr_34, g_2, fr, yb, zb] w := hS
                    refine ⟨.inr (by kernel_rfl), ?_⟩
                    refine K.DW.done (by kernel_rfl) ?_
                    refine K.thn_normal ?_
                    exact ⟨r_139, r_136, a1_108, c1_109, a2_110, c2_111, a3_112, c3_113, g_142, g_144, g1_114, g2_115, g3_116, ⟨by rfl, by rfl, by rfl, by rfl, by rfl, by rfl, by rfl, by rfl, by rfl, by rfl, trivial⟩, (by assumption), hg_143, hg_145, x1_117, x2_118, x3_119, hS.pick [5, 6, 7, 8, 9, 10, 11, 12, 13, 14, 15, 16, 0, 1, 2, 3, 4]⟩
                ·  -- first 9
                  refine (K.OW.gnew 42 [.slice none 0 0, .slice none 0 0, .slice none 0 0] hS ?_)
                  clear hS; intro w r_146 g_147 hg_148 hS
                  refine ⟨.inl (hS.pick [15]), ?_⟩
                  refine K.DW.l2 5 10 rfl rfl (by kernel_rfl) rfl rfl ?_ ?_
                  ·  -- first 5
                    refine (K.OW.gcall hS [3, 2, 1] [0, 4, 5, 6, 7, 8, 9, 10, 11, 12, 13, 14, 15] [.agg #[.slice zq S.q.length zd, .slice zs S.s.length ze, .slice zm S.m.length zf], .agg #[.int .i64 ((ls.getD j op0).kind), .int .u32 ((ls.getD j op0).key), .int .u32 ((ls.getD j op0).val)]] (applyG_ok _ _ _ _ _ _ _ S.q S.s S.m ((ls.getD j op0).kind) ((ls.getD j op0).key) ((ls.getD j op0).val) (by omega) (by omega) (by omega) (by assumption) (by assumption) (by omega) _ _ _ x_102 x_103 x_104) ?_)
                    clear hS; rintro _ _ w ⟨a1_149, c1_150, a2_151, c2_152, a3_153, c3_154, g1_155, g2_156, g3_157, rfl, rfl, x1_158, x2_159, x3_160, hc_161⟩ hS
                    replace hS : K.Sat w0 [g1_155, g2_156, g3_157, g_147, yi, yh, yg, g_42, g1_31, g2_32, g3_33, gr_34, g_2, fr, yb, zb] w := hS
                    obtain ⟨h_162, h_163, h_164, h_165, h_166⟩ := applyT_okE (q := S.q) (s := S.s) (m := S.m) (kind := (ls.getD j op0).kind) (key := (ls.getD j op0).key) (val := (ls.getD j op0).val) (by assumption) (by assumption)
                    refine ⟨.inl (hS.pick [15]), ?_⟩
                    refine K.DW.q 6 (by kernel_rfl) rfl rfl (by kernel_rfl) rfl (fun w hS => K.QR.k (v := .tuple #[.agg #[.slice a1_149 ((applyT ⟨S.q, S.s, S.m⟩ ((ls.getD j op0).kind) ((ls.getD j op0).key) ((ls.getD j op0).val)).1.q.length) c1_150, .slice a2_151 ((applyT ⟨S.q, S.s, S.m⟩ ((ls.getD j op0).kind) ((ls.getD j op0).key) ((ls.getD j op0).val)).1.s.length) c2_152, .slice a3_153 ((applyT ⟨S.q, S.s, S.m⟩ ((ls.getD j op0).kind) ((ls.getD j op0).key) ((ls.getD j op0).val)).1.m.length) c3_154], .agg #[.int .i64 ((applyT ⟨S.q, S.s, S.m⟩ ((ls.getD j op0).kind) ((ls.getD j op0).key) ((ls.getD j op0).val)).2.1), .int .u32 ((applyT ⟨S.q, S.s, S.m⟩ ((ls.getD j op0).kind) ((ls.getD j op0).key) ((ls.getD j op0).val)).2.2)]]) (by kernel_rfl)) (hS.pick [15]) ?_
                    refine K.DW.q 7 (by kernel_rfl) rfl rfl (by kernel_rfl) rfl (fun w hS => K.QR.k (v := .agg #[.slice a1_149 ((applyT ⟨S.q, S.s, S.m⟩ ((ls.getD j op0).kind) ((ls.getD j op0).key) ((ls.getD j op0).val)).1.q.length) c1_150, .slice a2_151 ((applyT ⟨S.q, S.s, S.m⟩ ((ls.getD j op0).kind) ((ls.getD j op0).key) ((ls.getD j op0).val)).1.s.length) c2_152, .slice a3_153 ((applyT ⟨S.q, S.s, S.m⟩ ((ls.getD j op0).kind) ((ls.getD j op0).key) ((ls.getD j op0).val)).1.m.length) c3_154]) (by kernel_rfl)) (hS.pick [15]) ?_
                    refine K.DW.q 8 (by kernel_rfl) rfl rfl (by kernel_rfl) rfl (fun w hS => K.QR.k (v := .agg #[.int .i64 ((applyT ⟨S.q, S.s, S.m⟩ ((ls.getD j op0).kind) ((ls.getD j op0).key) ((ls.getD j op0).val)).2.1), .int .u32 ((applyT ⟨S.q, S.s, S.m⟩ ((ls.getD j op0).kind) ((ls.getD j op0).key) ((ls.getD j op0).val)).2.2)]) (by kernel_rfl)) (hS.pick [15]) ?_
                    refine K.DW.l 10 rfl (by kernel_rfl) rfl (K.OW.gnew 52 [.int .i64 0, .int .u32 0] hS ?_)
                    clear hS; intro w r_167 g_168 hg_169 hS
                    refine ⟨.inl (hS.pick [16]), ?_⟩
                    refine K.DW.l 11 rfl (by kernel_rfl) rfl (K.OW.gst 4 [.slice a1_149 ((applyT ⟨S.q, S.s, S.m⟩ ((ls.getD j op0).kind) ((ls.getD j op0).key) ((ls.getD j op0).val)).1.q.length) c1_150, .slice a2_151 ((applyT ⟨S.q, S.s, S.m⟩ ((ls.getD j op0).kind) ((ls.getD j op0).key) ((ls.getD j op0).val)).1.s.length) c2_152, .slice a3_153 ((applyT ⟨S.q, S.s, S.m⟩ ((ls.getD j op0).kind) ((ls.getD j op0).key) ((ls.getD j op0).val)).1.m.length) c3_154] [.slice a1_149 ((applyT ⟨S.q, S.s, S.m⟩ ((ls.getD j op0).kind) ((ls.getD j op0).key) ((ls.getD j op0).val)).1.q.length) c1_150, .slice a2_151 ((applyT ⟨S.q, S.s, S.m⟩ ((ls.getD j op0).kind) ((ls.getD j op0).key) ((ls.getD j op0).val)).1.s.length) c2_152, .slice a3_153 ((applyT ⟨S.q, S.s, S.m⟩ ((ls.getD j op0).kind) ((ls.getD j op0).key) ((ls.getD j op0).val)).1.m.length) c3_154] hS hg_148 ?_)
                    clear hS; intro w g_170 hg_171 hS
                    replace hS : K.Sat w0 [g_168, g1_155, g2_156, g3_157, g_170, yi, yh, yg, g_42, g1_31, g2_32, g3_33, gr_34, g_2, fr, yb, zb] w := hS
                    refine ⟨.inl (hS.pick [16]), ?_⟩
                    refine K.DW.l 12 rfl (by kernel_rfl) rfl (K.OW.gst 0 [.int .i64 ((applyT ⟨S.q, S.s, S.m⟩ ((ls.getD j op0).kind) ((ls.getD j op0).key) ((ls.getD j op0).val)).2.1), .int .u32 ((applyT ⟨S.q, S.s, S.m⟩ ((ls.getD j op0).kind) ((ls.getD j op0).key) ((ls.getD j op0).val)).2.2)] [.int .i64 ((applyT ⟨S.q, S.s, S.m⟩ ((ls.getD j op0).kind) ((ls.getD j op0).key) ((ls.getD j op0).val)).2.1), .int .u32 ((applyT ⟨S.q, S.s, S.m⟩ ((ls.getD j op0).kind) ((ls.getD j op0).key) ((ls.getD j op0).val)).2.2)] hS hg_169 ?_)
                    clear hS; intro w g_172 hg_173 hS
                    replace hS : K.Sat w0 [g_172, g1_155, g2_156, g3_157, g_170, yi, yh, yg, g_42, g1_31, g2_32, g3_33, gr_34, g_2, fr, yb, zb] w := hS
                    refine ⟨.inr (by kernel_rfl), ?_⟩
                    refine K.DW.done (by kernel_rfl) ?_
                    refine K.thn_normal ?_
                    exact ⟨r_146, r_167, a1_149, c1_150, a2_151, c2_152, a3_153, c3_154, g_170, g_172, g1_155, g2_156, g3_157, ⟨by rfl, by rfl, by rfl, by rfl, by rfl, by rfl, by rfl, by rfl, by rfl, by rfl, trivial⟩, (by assumption), hg_171, hg_173, x1_158, x2_159, x3_160, hS.pick [5, 6, 7, 8, 9, 10, 11, 12, 13, 14, 15, 16, 4, 0, 1, 2, 3]⟩
                  ·  -- first 10
                    refine (K.OW.gnew 52 [.int .i64 0, .int .u32 0] hS ?_)
                    clear hS; intro w r_174 g_175 hg_176 hS
                    refine ⟨.inl (hS.pick [16]), ?_⟩
                    refine K.DW.l 5 rfl (by kernel_rfl) rfl (K.OW.gcall hS [4, 3, 2] [0, 1, 5, 6, 7, 8, 9, 10, 11, 12, 13, 14, 15, 16] [.agg #[.slice zq S.q.length zd, .slice zs S.s.length ze, .slice zm S.m.length zf], .agg #[.int .i64 ((ls.getD j op0).kind), .int .u32 ((ls.getD j op0).key), .int .u32 ((ls.getD j op0).val)]] (applyG_ok _ _ _ _ _ _ _ S.q S.s S.m ((ls.getD j op0).kind) ((ls.getD j op0).key) ((ls.getD j op0).val) (by omega) (by omega) (by omega) (by assumption) (by assumption) (by omega) _ _ _ x_102 x_103 x_104) ?_)
                    clear hS; rintro _ _ w ⟨a1_177, c1_178, a2_179, c2_180, a3_181, c3_182, g1_183, g2_184, g3_185, rfl, rfl, x1_186, x2_187, x3_188, hc_189⟩ hS
                    replace hS : K.Sat w0 [g1_183, g2_184, g3_185, g_175, g_147, yi, yh, yg, g_42, g1_31, g2_32, g3_33, gr_34, g_2, fr, yb, zb] w := hS
                    obtain ⟨h_190, h_191, h_192, h_193, h_194⟩ := applyT_okE (q := S.q) (s := S.s) (m := S.m) (kind := (ls.getD j op0).kind) (key := (ls.getD j op0).key) (val := (ls.getD j op0).val) (by assumption) (by assumption)
                    refine ⟨.inl (hS.pick [16]), ?_⟩
                    refine K.DW.l 6 rfl (by kernel_rfl) rfl (K.OW.q rfl (K.QR.k (v := .tuple #[.agg #[.slice a1_177 ((applyT ⟨S.q, S.s, S.m⟩ ((ls.getD j op0).kind) ((ls.getD j op0).key) ((ls.getD j op0).val)).1.q.length) c1_178, .slice a2_179 ((applyT ⟨S.q, S.s, S.m⟩ ((ls.getD j op0).kind) ((ls.getD j op0).key) ((ls.getD j op0).val)).1.s.length) c2_180, .slice a3_181 ((applyT ⟨S.q, S.s, S.m⟩ ((ls.getD j op0).kind) ((ls.getD j op0).key) ((ls.getD j op0).val)).1.m.length) c3_182], .agg #[.int .i64 ((applyT ⟨S.q, S.s, S.m⟩ ((ls.getD j op0).kind) ((ls.getD j op0).key) ((ls.getD j op0).val)).2.1), .int .u32 ((applyT ⟨S.q, S.s, S.m⟩ ((ls.getD j op0).kind) ((ls.getD j op0).key) ((ls.getD j op0).val)).2.2)]]) (by kernel_rfl)) ?_)
                    refine ⟨.inl (hS.pick [16]), ?_⟩
                    refine K.DW.q 7 (by kernel_rfl) rfl rfl (by kernel_rfl) rfl (fun w hS => K.QR.k (v := .agg #[.slice a1_177 ((applyT ⟨S.q, S.s, S.m⟩ ((ls.getD j op0).kind) ((ls.getD j op0).key) ((ls.getD j op0).val)).1.q.length) c1_178, .slice a2_179 ((applyT ⟨S.q, S.s, S.m⟩ ((ls.getD j op0).kind) ((ls.getD j op0).key) ((ls.getD j op0).val)).1.s.length) c2_180, .slice a3_181 ((applyT ⟨S.q, S.s, S.m⟩ ((ls.getD j op0).kind) ((ls.getD j op0).key) ((ls.getD j op0).val)).1.m.length) c3_182]) (by kernel_rfl)) (hS.pick [16]) ?_
                    refine K.DW.q 8 (by kernel_rfl) rfl rfl (by kernel_rfl) rfl (fun w hS => K.QR.k (v := .agg #[.int .i64 ((applyT ⟨S.q, S.s, S.m⟩ ((ls.getD j op0).kind) ((ls.getD j op0).key) ((ls.getD j op0).val)).2.1), .int .u32 ((applyT ⟨S.q, S.s, S.m⟩ ((ls.getD j op0).kind) ((ls.getD j op0).key) ((ls.getD j op0).val)).2.2)]) (by kernel_rfl)) (hS.pick [16]) ?_
                    refine K.DW.l 11 rfl (by kernel_rfl) rfl (K.OW.gst 4 [.slice a1_177 ((applyT ⟨S.q, S.s, S.m⟩ ((ls.getD j op0).kind) ((ls.getD j op0).key) ((ls.getD j op0).val)).1.q.length) c1_178, .slice a2_179 ((applyT ⟨S.q, S.s, S.m⟩ ((ls.getD j op0).kind) ((ls.getD j op0).key) ((ls.getD j op0).val)).1.s.length) c2_180, .slice a3_181 ((applyT ⟨S.q, S.s, S.m⟩ ((ls.getD j op0).kind) ((ls.getD j op0).key) ((ls.getD j op0).val)).1.m.length) c3_182] [.slice a1_177 ((applyT ⟨S.q, S.s, S.m⟩ ((ls.getD j op0).kind) ((ls.getD j op0).key) ((ls.getD j op0).val)).1.q.length) c1_178, .slice a2_179 ((applyT ⟨S.q, S.s, S.m⟩ ((ls.getD j op0).kind) ((ls.getD j op0).key) ((ls.getD j op0).val)).1.s.length) c2_180, .slice a3_181 ((applyT ⟨S.q, S.s, S.m⟩ ((ls.getD j op0).kind) ((ls.getD j op0).key) ((ls.getD j op0).val)).1.m.length) c3_182] hS hg_148 ?_)
                    clear hS; intro w g_195 hg_196 hS
                    replace hS : K.Sat w0 [g1_183, g2_184, g3_185, g_175, g_195, yi, yh, yg, g_42, g1_31, g2_32, g3_33, gr_34, g_2, fr, yb, zb] w := hS
                    refine ⟨.inl (hS.pick [16]), ?_⟩
                    refine K.DW.l 12 rfl (by kernel_rfl) rfl (K.OW.gst 3 [.int .i64 ((applyT ⟨S.q, S.s, S.m⟩ ((ls.getD j op0).kind) ((ls.getD j op0).key) ((ls.getD j op0).val)).2.1), .int .u32 ((applyT ⟨S.q, S.s, S.m⟩ ((ls.getD j op0).kind) ((ls.getD j op0).key) ((ls.getD j op0).val)).2.2)] [.int .i64 ((applyT ⟨S.q, S.s, S.m⟩ ((ls.getD j op0).kind) ((ls.getD j op0).key) ((ls.getD j op0).val)).2.1), .int .u32 ((applyT ⟨S.q, S.s, S.m⟩ ((ls.getD j op0).kind) ((ls.getD j op0).key) ((ls.getD j op0).val)).2.2)] hS hg_176 ?_)
                    clear hS; intro w g_197 hg_198 hS
                    replace hS : K.Sat w0 [g1_183, g2_184, g3_185, g_197, g_195, yi, yh, yg, g_42, g1_31, g2_32, g3_33, gr_34, g_2, fr, yb, zb] w := hS
                    refine ⟨.inr (by kernel_rfl), ?_⟩
                    refine K.DW.done (by kernel_rfl) ?_
                    refine K.thn_normal ?_
                    exact ⟨r_146, r_174, a1_177, c1_178, a2_179, c2_180, a3_181, c3_182, g_195, g_197, g1_183, g2_184, g3_185, ⟨by rfl, by rfl, by rfl, by rfl, by rfl, by rfl, by rfl, by rfl, by rfl, by rfl, trivial⟩, (by assumption), hg_196, hg_198, x1_186, x2_187, x3_188, hS.pick [5, 6, 7, 8, 9, 10, 11, 12, 13, 14, 15, 16, 4, 3, 0, 1, 2]⟩
                ·  -- first 10
                  refine (K.OW.gnew 52 [.int .i64 0, .int .u32 0] hS ?_)
                  clear hS; intro w r_199 g_200 hg_201 hS
                  refine ⟨.inl (hS.pick [15]), ?_⟩
                  refine K.DW.l2 5 9 rfl rfl (by kernel_rfl) rfl rfl ?_ ?_
                  ·  -- first 5
                    refine (K.OW.gcall hS [3, 2, 1] [0, 4, 5, 6, 7, 8, 9, 10, 11, 12, 13, 14, 15] [.agg #[.slice zq S.q.length zd, .slice zs S.s.length ze, .slice zm S.m.length zf], .agg #[.int .i64 ((ls.getD j op0).kind), .int .u32 ((ls.getD j op0).key), .int .u32 ((ls.getD j op0).val)]] (applyG_ok _ _ _ _ _ _ _ S.q S.s S.m ((ls.getD j op0).kind) ((ls.getD j op0).key) ((ls.getD j op0).val) (by omega) (by omega) (by omega) (by assumption) (by assumption) (by omega) _ _ _ x_102 x_103 x_104) ?_)
                    clear hS; rintro _ _ w ⟨a1_202, c1_203, a2_204, c2_205, a3_206, c3_207, g1_208, g2_209, g3_210, rfl, rfl, x1_211, x2_212, x3_213, hc_214⟩ hS
                    replace hS : K.Sat w0 [g1_208, g2_209, g3_210, g_200, yi, yh, yg, g_42, g1_31, g2_32, g3_33, gr_34, g_2, fr, yb, zb] w := hS
                    obtain ⟨h_215, h_216, h_217, h_218, h_219⟩ := applyT_okE (q := S.q) (s := S.s) (m := S.m) (kind := (ls.getD j op0).kind) (key := (ls.getD j op0).key) (val := (ls.getD j op0).val) (by assumption) (by assumption)
                    refine ⟨.inl (hS.pick [15]), ?_⟩
                    refine K.DW.q 6 (by kernel_rfl) rfl rfl (by kernel_rfl) rfl (fun w hS => K.QR.k (v := .tuple #[.agg #[.slice a1_202 ((applyT ⟨S.q, S.s, S.m⟩ ((ls.getD j op0).kind) ((ls.getD j op0).key) ((ls.getD j op0).val)).1.q.length) c1_203, .slice a2_204 ((applyT ⟨S.q, S.s, S.m⟩ ((ls.getD j op0).kind) ((ls.getD j op0).key) ((ls.getD j op0).val)).1.s.length) c2_205, .slice a3_206 ((applyT ⟨S.q, S.s, S.m⟩ ((ls.getD j op0).kind) ((ls.getD j op0).key) ((ls.getD j op0).val)).1.m.length) c3_207], .agg #[.int .i64 ((applyT ⟨S.q, S.s, S.m⟩ ((ls.getD j op0).kind) ((ls.getD j op0).key) ((ls.getD j op0).val)).2.1), .int .u32 ((applyT ⟨S.q, S.s, S.m⟩ ((ls.getD j op0).kind) ((ls.getD j op0).key) ((ls.getD j op0).val)).2.2)]]) (by kernel_rfl)) (hS.pick [15]) ?_
                    refine K.DW.q 7 (by kernel_rfl) rfl rfl (by kernel_rfl) rfl (fun w hS => K.QR.k (v := .agg #[.slice a1_202 ((applyT ⟨S.q, S.s, S.m⟩ ((ls.getD j op0).kind) ((ls.getD j op0).key) ((ls.getD j op0).val)).1.q.length) c1_203, .slice a2_204 ((applyT ⟨S.q, S.s, S.m⟩ ((ls.getD j op0).kind) ((ls.getD j op0).key) ((ls.getD j op0).val)).1.s.length) c2_205, .slice a3_206 ((applyT ⟨S.q, S.s, S.m⟩ ((ls.getD j op0).kind) ((ls.getD j op0).key) ((ls.getD j op0).val)).1.m.length) c3_207]) (by kernel_rfl)) (hS.pick [15]) ?_
                    refine K.DW.q 8 (by kernel_rfl) rfl rfl (by kernel_rfl) rfl (fun w hS => K.QR.k (v := .agg #[.int .i64 ((applyT ⟨S.q, S.s, S.m⟩ ((ls.getD j op0).kind) ((ls.getD j op0).key) ((ls.getD j op0).val)).2.1), .int .u32 ((applyT ⟨S.q, S.s, S.m⟩ ((ls.getD j op0).kind) ((ls.getD j op0).key) ((ls.getD j op0).val)).2.2)]) (by kernel_rfl)) (hS.pick [15]) ?_
                    refine K.DW.l 9 rfl (by kernel_rfl) rfl (K.OW.gnew 42 [.slice none 0 0, .slice none 0 0, .slice none 0 0] hS ?_)
                    clear hS; intro w r_220 g_221 hg_222 hS
                    refine ⟨.inl (hS.pick [16]), ?_⟩
                    refine K.DW.l 11 rfl (by kernel_rfl) rfl (K.OW.gst 0 [.slice a1_202 ((applyT ⟨S.q, S.s, S.m⟩ ((ls.getD j op0).kind) ((ls.getD j op0).key) ((ls.getD j op0).val)).1.q.length) c1_203, .slice a2_204 ((applyT ⟨S.q, S.s, S.m⟩ ((ls.getD j op0).kind) ((ls.getD j op0).key) ((ls.getD j op0).val)).1.s.length) c2_205, .slice a3_206 ((applyT ⟨S.q, S.s, S.m⟩ ((ls.getD j op0).kind) ((ls.getD j op0).key) ((ls.getD j op0).val)).1.m.length) c3_207] [.slice a1_202 ((applyT ⟨S.q, S.s, S.m⟩ ((ls.getD j op0).kind) ((ls.getD j op0).key) ((ls.getD j op0).val)).1.q.length) c1_203, .slice a2_204 ((applyT ⟨S.q, S.s, S.m⟩ ((ls.getD j op0).kind) ((ls.getD j op0).key) ((ls.getD j op0).val)).1.s.length) c2_205, .slice a3_206 ((applyT ⟨S.q, S.s, S.m⟩ ((ls.getD j op0).kind) ((ls.getD j op0).key) ((ls.getD j op0).val)).1.m.length) c3_207] hS hg_222 ?_)
                    clear hS; intro w g_223 hg_224 hS
                    replace hS : K.Sat w0 [g_223, g1_208, g2_209, g3_210, g_200, yi, yh, yg, g_42, g1_31, g2_32, g3_33, gr_34, g_2, fr, yb, zb] w := hS
                    refine ⟨.inl (hS.pick [16]), ?_⟩
                    refine K.DW.l 12 rfl (by kernel_rfl) rfl (K.OW.gst 4 [.int .i64 ((applyT ⟨S.q, S.s, S.m⟩ ((ls.getD j op0).kind) ((ls.getD j op0).key) ((ls.getD j op0).val)).2.1), .int .u32 ((applyT ⟨S.q, S.s, S.m⟩ ((ls.getD j op0).kind) ((ls.getD j op0).key) ((ls.getD j op0).val)).2.2)] [.int .i64 ((applyT ⟨S.q, S.s, S.m⟩ ((ls.getD j op0).kind) ((ls.getD j op0).key) ((ls.getD j op0).val)).2.1), .int .u32 ((applyT ⟨S.q, S.s, S.m⟩ ((ls.getD j op0).kind) ((ls.getD j op0).key) ((ls.getD j op0).val)).2.2)] hS hg_201 ?_)
                    clear hS; intro w g_225 hg_226 hS
                    replace hS : K.Sat w0 [g_223, g1_208, g2_209, g3_210, g_225, yi, yh, yg, g_42, g1_31, g2_32, g3_33, gr_34, g_2, fr, yb, zb] w := hS
                    refine ⟨.inr (by kernel_rfl), ?_⟩
                    refine K.DW.done (by kernel_rfl) ?_
                    refine K.thn_normal ?_
                    exact ⟨r_220, r_199, a1_202, c1_203, a2_204, c2_205, a3_206, c3_207, g_223, g_225, g1_208, g2_209, g3_210, ⟨by rfl, by rfl, by rfl, by rfl, by rfl, by rfl, by rfl, by rfl, by rfl, by rfl, trivial⟩, (by assumption), hg_224, hg_226, x1_211, x2_212, x3_213, hS.pick [5, 6, 7, 8, 9, 10, 11, 12, 13, 14, 15, 16, 0, 4, 1, 2, 3]⟩
                  ·  -- first 9
                    refine (K.OW.gnew 42 [.slice none 0 0, .slice none 0 0, .slice none 0 0] hS ?_)
                    clear hS; intro w r_227 g_228 hg_229 hS
                    refine ⟨.inl (hS.pick [16]), ?_⟩
                    refine K.DW.l 5 rfl (by kernel_rfl) rfl (K.OW.gcall hS [4, 3, 2] [0, 1, 5, 6, 7, 8, 9, 10, 11, 12, 13, 14, 15, 16] [.agg #[.slice zq S.q.length zd, .slice zs S.s.length ze, .slice zm S.m.length zf], .agg #[.int .i64 ((ls.getD j op0).kind), .int .u32 ((ls.getD j op0).key), .int .u32 ((ls.getD j op0).val)]] (applyG_ok _ _ _ _ _ _ _ S.q S.s S.m ((ls.getD j op0).kind) ((ls.getD j op0).key) ((ls.getD j op0).val) (by omega) (by omega) (by omega) (by assumption) (by assumption) (by omega) _ _ _ x_102 x_103 x_104) ?_)
                    clear hS; rintro _ _ w ⟨a1_230, c1_231, a2_232, c2_233, a3_234, c3_235, g1_236, g2_237, g3_238, rfl, rfl, x1_239, x2_240, x3_241, hc_242⟩ hS
                    replace hS : K.Sat w0 [g1_236, g2_237, g3_238, g_228, g_200, yi, yh, yg, g_42, g1_31, g2_32, g3_33, gr_34, g_2, fr, yb, zb] w := hS
                    obtain ⟨h_243, h_244, h_245, h_246, h_247⟩ := applyT_okE (q := S.q) (s := S.s) (m := S.m) (kind := (ls.getD j op0).kind) (key := (ls.getD j op0).key) (val := (ls.getD j op0).val) (by assumption) (by assumption)
                    refine ⟨.inl (hS.pick [16]), ?_⟩
                    refine K.DW.l 6 rfl (by kernel_rfl) rfl (K.OW.q rfl (K.QR.k (v := .tuple #[.agg #[.slice a1_230 ((applyT ⟨S.q, S.s, S.m⟩ ((ls.getD j op0).kind) ((ls.getD j op0).key) ((ls.getD j op0).val)).1.q.length) c1_231, .slice a2_232 ((applyT ⟨S.q, S.s, S.m⟩ ((ls.getD j op0).kind) ((ls.getD j op0).key) ((ls.getD j op0).val)).1.s.length) c2_233, .slice a3_234 ((applyT ⟨S.q, S.s, S.m⟩ ((ls.getD j op0).kind) ((ls.getD j op0).key) ((ls.getD j op0).val)).1.m.length) c3_235], .agg #[.int .i64 ((applyT ⟨S.q, S.s, S.m⟩ ((ls.getD j op0).kind) ((ls.getD j op0).key) ((ls.getD j op0).val)).2.1), .int .u32 ((applyT ⟨S.q, S.s, S.m⟩ ((ls.getD j op0).kind) ((ls.getD j op0).key) ((ls.getD j op0).val)).2.2)]]) (by kernel_rfl)) ?_)
                    refine ⟨.inl (hS.pick [16]), ?_⟩
                    refine K.DW.q 7 (by kernel_rfl) rfl rfl (by kernel_rfl) rfl (fun w hS => K.QR.k (v := .agg #[.slice a1_230 ((applyT ⟨S.q, S.s, S.m⟩ ((ls.getD j op0).kind) ((ls.getD j op0).key) ((ls.getD j op0).val)).1.q.length) c1_231, .slice a2_232 ((applyT ⟨S.q, S.s, S.m⟩ ((ls.getD j op0).kind) ((ls.getD j op0).key) ((ls.getD j op0).val)).1.s.length) c2_233, .slice a3_234 ((applyT ⟨S.q, S.s, S.m⟩ ((ls.getD j op0).kind) ((ls.getD j op0).key) ((ls.getD j op0).val)).1.m.length) c3_235]) (by kernel_rfl)) (hS.pick [16]) ?_
                    refine K.DW.q 8 (by kernel_rfl) rfl rfl (by kernel_rfl) rfl (fun w hS => K.QR.k (v := .agg #[.int .i64 ((applyT ⟨S.q, S.s, S.m⟩ ((ls.getD j op0).kind) ((ls.getD j op0).key) ((ls.getD j op0).val)).2.1), .int .u32 ((applyT ⟨S.q, S.s, S.m⟩ ((ls.getD j op0).kind) ((ls.getD j op0).key) ((ls.getD j op0).val)).2.2)]) (by kernel_rfl)) (hS.pick [16]) ?_
                    refine K.DW.l 11 rfl (by kernel_rfl) rfl (K.OW.gst 3 [.slice a1_230 ((applyT ⟨S.q, S.s, S.m⟩ ((ls.getD j op0).kind) ((ls.getD j op0).key) ((ls.getD j op0).val)).1.q.length) c1_231, .slice a2_232 ((applyT ⟨S.q, S.s, S.m⟩ ((ls.getD j op0).kind) ((ls.getD j op0).key) ((ls.getD j op0).val)).1.s.length) c2_233, .slice a3_234 ((applyT ⟨S.q, S.s, S.m⟩ ((ls.getD j op0).kind) ((ls.getD j op0).key) ((ls.getD j op0).val)).1.m.length) c3_235] [.slice a1_230 ((applyT ⟨S.q, S.s, S.m⟩ ((ls.getD j op0).kind) ((ls.getD j op0).key) ((ls.getD j op0).val)).1.q.length) c1_231, .slice a2_232 ((applyT ⟨S.q, S.s, S.m⟩ ((ls.getD j op0).kind) ((ls.getD j op0).key) ((ls.getD j op0).val)).1.s.length) c2_233, .slice a3_234 ((applyT ⟨S.q, S.s, S.m⟩ ((ls.getD j op0).kind) ((ls.getD j op0).key) ((ls.getD j op0).val)).1.m.length) c3_235] hS hg_229 ?_)
                    clear hS; intro w g_248 hg_249 hS
                    replace hS : K.Sat w0 [g1_236, g2_237, g3_238, g_248, g_200, yi, yh, yg, g_42, g1_31, g2_32, g3_33, gr_34, g_2, fr, yb, zb] w := hS
                    refine ⟨.inl (hS.pick [16]), ?_⟩
                    refine K.DW.l 12 rfl (by kernel_rfl) rfl (K.OW.gst 4 [.int .i64 ((applyT ⟨S.q, S.s, S.m⟩ ((ls.getD j op0).kind) ((ls.getD j op0).key) ((ls.getD j op0).val)).2.1), .int .u32 ((applyT ⟨S.q, S.s, S.m⟩ ((ls.getD j op0).kind) ((ls.getD j op0).key) ((ls.getD j op0).val)).2.2)] [.int .i64 ((applyT ⟨S.q, S.s, S.m⟩ ((ls.getD j op0).kind) ((ls.getD j op0).key) ((ls.getD j op0).val)).2.1), .int .u32 ((applyT ⟨S.q, S.s, S.m⟩ ((ls.getD j op0).kind) ((ls.getD j op0).key) ((ls.getD j op0).val)).2.2)] hS hg_201 ?_)
                    clear hS; intro w g_250 hg_251 hS
                    replace hS : K.Sat w0 [g1_236, g2_237, g3_238, g_248, g_250, yi, yh, yg, g_42, g1_31, g2_32, g3_33, gr_34, g_2, fr, yb, zb] w := hS
                    refine ⟨.inr (by kernel_rfl), ?_⟩
                    refine K.DW.done (by kernel_rfl) ?_
                    refine K.thn_normal ?_
                    exact ⟨r_227, r_199, a1_230, c1_231, a2_232, c2_233, a3_234, c3_235, g_248, g_250, g1_236, g2_237, g3_238, ⟨by rfl, by rfl, by rfl, by rfl, by rfl, by rfl, by rfl, by rfl, by rfl, by rfl, trivial⟩, (by assumption), hg_249, hg_251, x1_239, x2_240, x3_241, hS.pick [5, 6, 7, 8, 9, 10, 11, 12, 13, 14, 15, 16, 3, 4, 0, 1, 2]⟩
              · -- behind
                clear hS
                intro F_252 w hI
                obtain ⟨uB, uR, uq, ud, us, ue, um, uf, ub, ur, ug, uh, ui, sl_253, p_254, x_255, x_256, x_257, x_258, x_259, hS⟩ := hI
                rw [← K.Sl.puts sl_253]; clear sl_253
                obtain ⟨uk0, uk1, uk2, uk3, uk4⟩ := applyT_okE (q := S.q) (s := S.s) (m := S.m) (kind := (ls.getD j op0).kind) (key := (ls.getD j op0).key) (val := (ls.getD j op0).val) (by assumption) (by assumption)
                refine K.KW.cut (fun F_ w_ => ∃ (vB : Nat) (vR : Nat) (vq : Option Addr) (vd : Nat) (vs : Option Addr) (ve : Nat) (vm : Option Addr) (vf : Nat) (vb : K.Cs) (vr : K.Cs) (vg : K.Cs) (vh : K.Cs) (vi : K.Cs), K.Sl F_ [(0, .agg #[.slice q qa.length cq, .slice s sa.length cs, .slice m ma.length cm]), (1, .slice b ls.length cb), (5, .pointer (some ⟨r_39, 0, none⟩)), (6, .slice r_29 ((runT ⟨qa, sa, ma⟩ ls).2.length) c_30), (7, .pointer (some ⟨b7, 0, none⟩)), (8, .pointer (some ⟨b8, 0, none⟩)), (9, .int .i64 ((j : Nat) : Int)), (10, .pointer (some ⟨uB, 0, none⟩)), (11, .pointer (some ⟨uR, 0, none⟩)), (12, .pointer (some ⟨vB, 0, none⟩)), (13, .pointer (some ⟨vR, 0, none⟩)), (128, undef)] ∧ (applyT ⟨S.q, S.s, S.m⟩ (ls.getD j op0).kind (ls.getD j op0).key (ls.getD j op0).val).1.q.length ≤ vd ∧ vb = [K.pt vB 42 [.slice vq ((applyT ⟨S.q, S.s, S.m⟩ (ls.getD j op0).kind (ls.getD j op0).key (ls.getD j op0).val).1.q.length) vd, .slice vs ((applyT ⟨S.q, S.s, S.m⟩ (ls.getD j op0).kind (ls.getD j op0).key (ls.getD j op0).val).1.s.length) ve, .slice vm ((applyT ⟨S.q, S.s, S.m⟩ (ls.getD j op0).kind (ls.getD j op0).key (ls.getD j op0).val).1.m.length) vf]] ∧ vr = [K.pt vR 52 [.int .i64 ((applyT ⟨S.q, S.s, S.m⟩ (ls.getD j op0).kind (ls.getD j op0).key (ls.getD j op0).val).2.1), .int .u32 ((applyT ⟨S.q, S.s, S.m⟩ (ls.getD j op0).kind (ls.getD j op0).key (ls.getD j op0).val).2.2)]] ∧ (∀ w, K.Sat w0 [vg] w → K.RowE w vq (((applyT ⟨S.q, S.s, S.m⟩ (ls.getD j op0).kind (ls.getD j op0).key (ls.getD j op0).val).1.q).length) 1 (fun i => cU32 (((applyT ⟨S.q, S.s, S.m⟩ (ls.getD j op0).kind (ls.getD j op0).key (ls.getD j op0).val).1.q).getD i 0))) ∧ (∀ w, K.Sat w0 [vh] w → K.RowE w vs (((applyT ⟨S.q, S.s, S.m⟩ (ls.getD j op0).kind (ls.getD j op0).key (ls.getD j op0).val).1.s).length) 1 (fun i => cU32 (((applyT ⟨S.q, S.s, S.m⟩ (ls.getD j op0).kind (ls.getD j op0).key (ls.getD j op0).val).1.s).getD i 0))) ∧ (∀ w, K.Sat w0 [vi] w → K.RowE w vm (((applyT ⟨S.q, S.s, S.m⟩ (ls.getD j op0).kind (ls.getD j op0).key (ls.getD j op0).val).1.m).length) 2 (fun i => cPair (((applyT ⟨S.q, S.s, S.m⟩ (ls.getD j op0).kind (ls.getD j op0).key (ls.getD j op0).val).1.m).getD i p0))) ∧ K.Sat w0 [g_42, g1_31, g2_32, g3_33, gr_34, g_2, fr, yb, zb, ub, ur, ug, uh, ui, vb, vr, vg, vh, vi] w_) ?_ ?_
                · -- ahead
                  -- 13 :57
                  obtain ⟨b_260, of_261, rfl, _⟩ := x4.at_ (by omega)
                  refine K.KW.gdrawn [10] hS (by kernel_rfl) ?_
                  clear hS; intro w hS
                  refine K.DW.q 0 (by kernel_rfl) rfl rfl (by kernel_rfl) rfl (fun w hS => K.QR.ldN [.slice yq S.q.length yd, .slice ys S.s.length ye, .slice ym S.m.length yf] rfl rfl (by kernel_rfl) (by kernel_rfl) (K.cells (K.cl ((hS.blk 0 rfl x_97).cell rfl) (K.cl ((hS.blk 0 rfl x_97).cell rfl) (K.cl ((hS.blk 0 rfl x_97).cell rfl) K.cl0))))) (hS.pick [10]) ?_
                  refine K.DW.q 1 (by kernel_rfl) rfl rfl (by kernel_rfl) rfl (fun w hS => K.QR.k (v := .slice (some ⟨b_260, of_261, none⟩) ls.length cb) (by kernel_rfl)) (hS.pick [10]) ?_
                  refine K.DW.q 2 (by kernel_rfl) rfl rfl (by kernel_rfl) rfl (fun w hS => K.QR.k (v := .int .i64 ((j : Nat) : Int)) (by kernel_rfl)) (hS.pick [10]) ?_
                  refine K.DW.q 3 (by kernel_rfl) rfl rfl (by kernel_rfl) rfl (fun w hS => K.QR.ix (of_261 + j * 3) 3 rfl rfl rfl Try.underlying50 (by kernel_rfl) (by omega) (by first | (simp; done) | omega | (simp; omega))) (hS.pick [10]) ?_
                  refine K.DW.q 4 (by kernel_rfl) rfl rfl (by kernel_rfl) rfl (fun w hS => K.QR.ldN [.int .i64 ((ls.getD j op0).kind), .int .u32 ((ls.getD j op0).key), .int .u32 ((ls.getD j op0).val)] rfl rfl (by kernel_rfl) (by kernel_rfl) (K.cells (K.cl ((x4.no hS.chg).ld j (by omega) 0 _ rfl) (K.cl ((x4.no hS.chg).ld j (by omega) 1 _ rfl) (K.cl ((x4.no hS.chg).ld j (by omega) 2 _ rfl) K.cl0))))) (hS.pick [10]) ?_
                  refine K.DW.l3 5 9 10 rfl rfl rfl (by kernel_rfl) rfl rfl rfl ?_ ?_ ?_
                  ·  -- first 5
                    refine (K.OW.gcall hS [2, 1, 0] [3, 4, 5, 6, 7, 8, 9, 10, 11, 12, 13, 14, 15, 16] [.agg #[.slice yq S.q.length yd, .slice ys S.s.length ye, .slice ym S.m.length yf], .agg #[.int .i64 ((ls.getD j op0).kind), .int .u32 ((ls.getD j op0).key), .int .u32 ((ls.getD j op0).val)]] (rapply_ok _ _ _ _ _ _ _ S.q S.s S.m ((ls.getD j op0).kind) ((ls.getD j op0).key) ((ls.getD j op0).val) (by omega) (by omega) (by omega) (by assumption) (by assumption) (by omega) _ x_98 _ x_99 _ x_100) ?_)
                    clear hS; rintro _ _ w ⟨a1_262, c1_263, a2_264, c2_265, a3_266, c3_267, g1_268, g2_269, g3_270, rfl, rfl, x1_271, x2_272, x3_273, hc_274⟩ hS
                    replace hS : K.Sat w0 [g1_268, g2_269, g3_270, g_42, g1_31, g2_32, g3_33, gr_34, g_2, fr, yb, zb, ub, ur, ug, uh, ui] w := hS
                    obtain ⟨h_275, h_276, h_277, h_278, h_279⟩ := applyT_okE (q := S.q) (s := S.s) (m := S.m) (kind := (ls.getD j op0).kind) (key := (ls.getD j op0).key) (val := (ls.getD j op0).val) (by assumption) (by assumption)
                    refine ⟨.inl (hS.pick [10]), ?_⟩
                    refine K.DW.q 6 (by kernel_rfl) rfl rfl (by kernel_rfl) rfl (fun w hS => K.QR.k (v := .tuple #[.agg #[.slice a1_262 ((applyT ⟨S.q, S.s, S.m⟩ ((ls.getD j op0).kind) ((ls.getD j op0).key) ((ls.getD j op0).val)).1.q.length) c1_263, .slice a2_264 ((applyT ⟨S.q, S.s, S.m⟩ ((ls.getD j op0).kind) ((ls.getD j op0).key) ((ls.getD j op0).val)).1.s.length) c2_265, .slice a3_266 ((applyT ⟨S.q, S.s, S.m⟩ ((ls.getD j op0).kind) ((ls.getD j op0).key) ((ls.getD j op0).val)).1.m.length) c3_267], .agg #[.int .i64 ((applyT ⟨S.q, S.s, S.m⟩ ((ls.getD j op0).kind) ((ls.getD j op0).key) ((ls.getD j op0).val)).2.1), .int .u32 ((applyT ⟨S.q, S.s, S.m⟩ ((ls.getD j op0).kind) ((ls.getD j op0).key) ((ls.getD j op0).val)).2.2)]]) (by kernel_rfl)) (hS.pick [10]) ?_
                    refine K.DW.q 7 (by kernel_rfl) rfl rfl (by kernel_rfl) rfl (fun w hS => K.QR.k (v := .agg #[.slice a1_262 ((applyT ⟨S.q, S.s, S.m⟩ ((ls.getD j op0).kind) ((ls.getD j op0).key) ((ls.getD j op0).val)).1.q.length) c1_263, .slice a2_264 ((applyT ⟨S.q, S.s, S.m⟩ ((ls.getD j op0).kind) ((ls.getD j op0).key) ((ls.getD j op0).val)).1.s.length) c2_265, .slice a3_266 ((applyT ⟨S.q, S.s, S.m⟩ ((ls.getD j op0).kind) ((ls.getD j op0).key) ((ls.getD j op0).val)).1.m.length) c3_267]) (by kernel_rfl)) (hS.pick [10]) ?_
                    refine K.DW.q 8 (by kernel_rfl) rfl rfl (by kernel_rfl) rfl (fun w hS => K.QR.k (v := .agg #[.int .i64 ((applyT ⟨S.q, S.s, S.m⟩ ((ls.getD j op0).kind) ((ls.getD j op0).key) ((ls.getD j op0).val)).2.1), .int .u32 ((applyT ⟨S.q, S.s, S.m⟩ ((ls.getD j op0).kind) ((ls.getD j op0).key) ((ls.getD j op0).val)).2.2)]) (by kernel_rfl)) (hS.pick [10]) ?_
                    refine K.DW.l2 9 10 rfl rfl (by kernel_rfl) rfl rfl ?_ ?_
                    ·  -- first 9
                      refine (K.OW.gnew 42 [.slice none 0 0, .slice none 0 0, .slice none 0 0] hS ?_)
                      clear hS; intro w r_280 g_281 hg_282 hS
                      refine ⟨.inl (hS.pick [11]), ?_⟩
                      refine K.DW.l 10 rfl (by kernel_rfl) rfl (K.OW.gnew 52 [.int .i64 0, .int .u32 0] hS ?_)
                      clear hS; intro w r_283 g_284 hg_285 hS
                      refine ⟨.inl (hS.pick [12]), ?_⟩
                      refine K.DW.l 11 rfl (by kernel_rfl) rfl (K.OW.gst 1 [.slice a1_262 ((applyT ⟨S.q, S.s, S.m⟩ ((ls.getD j op0).kind) ((ls.getD j op0).key) ((ls.getD j op0).val)).1.q.length) c1_263, .slice a2_264 ((applyT ⟨S.q, S.s, S.m⟩ ((ls.getD j op0).kind) ((ls.getD j op0).key) ((ls.getD j op0).val)).1.s.length) c2_265, .slice a3_266 ((applyT ⟨S.q, S.s, S.m⟩ ((ls.getD j op0).kind) ((ls.getD j op0).key) ((ls.getD j op0).val)).1.m.length) c3_267] [.slice a1_262 ((applyT ⟨S.q, S.s, S.m⟩ ((ls.getD j op0).kind) ((ls.getD j op0).key) ((ls.getD j op0).val)).1.q.length) c1_263, .slice a2_264 ((applyT ⟨S.q, S.s, S.m⟩ ((ls.getD j op0).kind) ((ls.getD j op0).key) ((ls.getD j op0).val)).1.s.length) c2_265, .slice a3_266 ((applyT ⟨S.q, S.s, S.m⟩ ((ls.getD j op0).kind) ((ls.getD j op0).key) ((ls.getD j op0).val)).1.m.length) c3_267] hS hg_282 ?_)
                      clear hS; intro w g_286 hg_287 hS
                      replace hS : K.Sat w0 [g_284, g_286, g1_268, g2_269, g3_270, g_42, g1_31, g2_32, g3_33, gr_34, g_2, fr, yb, zb, ub, ur, ug, uh, ui] w := hS
                      refine ⟨.inl (hS.pick [12]), ?_⟩
                      refine K.DW.l 12 rfl (by kernel_rfl) rfl (K.OW.gst 0 [.int .i64 ((applyT ⟨S.q, S.s, S.m⟩ ((ls.getD j op0).kind) ((ls.getD j op0).key) ((ls.getD j op0).val)).2.1), .int .u32 ((applyT ⟨S.q, S.s, S.m⟩ ((ls.getD j op0).kind) ((ls.getD j op0).key) ((ls.getD j op0).val)).2.2)] [.int .i64 ((applyT ⟨S.q, S.s, S.m⟩ ((ls.getD j op0).kind) ((ls.getD j op0).key) ((ls.getD j op0).val)).2.1), .int .u32 ((applyT ⟨S.q, S.s, S.m⟩ ((ls.getD j op0).kind) ((ls.getD j op0).key) ((ls.getD j op0).val)).2.2)] hS hg_285 ?_)
                      clear hS; intro w g_288 hg_289 hS
                      replace hS : K.Sat w0 [g_288, g_286, g1_268, g2_269, g3_270, g_42, g1_31, g2_32, g3_33, gr_34, g_2, fr, yb, zb, ub, ur, ug, uh, ui] w := hS
                      refine ⟨.inr (by kernel_rfl), ?_⟩
                      refine K.DW.done (by kernel_rfl) ?_
                      refine K.thn_normal ?_
                      exact ⟨r_280, r_283, a1_262, c1_263, a2_264, c2_265, a3_266, c3_267, g_286, g_288, g1_268, g2_269, g3_270, ⟨by rfl, by rfl, by rfl, by rfl, by rfl, by rfl, by rfl, by rfl, by rfl, by rfl, by rfl, by rfl, trivial⟩, (by assumption), hg_287, hg_289, x1_271, x2_272, x3_273, hS.pick [5, 6, 7, 8, 9, 10, 11, 12, 13, 14, 15, 16, 17, 18, 1, 0, 2, 3, 4]⟩
                    ·  -- first 10
                      refine (K.OW.gnew 52 [.int .i64 0, .int .u32 0] hS ?_)
                      clear hS; intro w r_290 g_291 hg_292 hS
                      refine ⟨.inl (hS.pick [11]), ?_⟩
                      refine K.DW.l 9 rfl (by kernel_rfl) rfl (K.OW.gnew 42 [.slice none 0 0, .slice none 0 0, .slice none 0 0] hS ?_)
                      clear hS; intro w r_293 g_294 hg_295 hS
                      refine ⟨.inl (hS.pick [12]), ?_⟩
                      refine K.DW.l 11 rfl (by kernel_rfl) rfl (K.OW.gst 0 [.slice a1_262 ((applyT ⟨S.q, S.s, S.m⟩ ((ls.getD j op0).kind) ((ls.getD j op0).key) ((ls.getD j op0).val)).1.q.length) c1_263, .slice a2_264 ((applyT ⟨S.q, S.s, S.m⟩ ((ls.getD j op0).kind) ((ls.getD j op0).key) ((ls.getD j op0).val)).1.s.length) c2_265, .slice a3_266 ((applyT ⟨S.q, S.s, S.m⟩ ((ls.getD j op0).kind) ((ls.getD j op0).key) ((ls.getD j op0).val)).1.m.length) c3_267] [.slice a1_262 ((applyT ⟨S.q, S.s, S.m⟩ ((ls.getD j op0).kind) ((ls.getD j op0).key) ((ls.getD j op0).val)).1.q.length) c1_263, .slice a2_264 ((applyT ⟨S.q, S.s, S.m⟩ ((ls.getD j op0).kind) ((ls.getD j op0).key) ((ls.getD j op0).val)).1.s.length) c2_265, .slice a3_266 ((applyT ⟨S.q, S.s, S.m⟩ ((ls.getD j op0).kind) ((ls.getD j op0).key) ((ls.getD j op0).val)).1.m.length) c3_267] hS hg_295 ?_)
                      clear hS; intro w g_296 hg_297 hS
                      replace hS : K.Sat w0 [g_296, g_291, g1_268, g2_269, g3_270, g_42, g1_31, g2_32, g3_33, gr_34, g_2, fr, yb, zb, ub, ur, ug, uh, ui] w := hS
                      refine ⟨.inl (hS.pick [12]), ?_⟩
                      refine K.DW.l 12 rfl (by kernel_rfl) rfl (K.OW.gst 1 [.int .i64 ((applyT ⟨S.q, S.s, S.m⟩ ((ls.getD j op0).kind) ((ls.getD j op0).key) ((ls.getD j op0).val)).2.1), .int .u32 ((applyT ⟨S.q, S.s, S.m⟩ ((ls.getD j op0).kind) ((ls.getD j op0).key) ((ls.getD j op0).val)).2.2)] [.int .i64 ((applyT ⟨S.q, S.s, S.m⟩ ((ls.getD j op0).kind) ((ls.getD j op0).key) ((ls.getD j op0).val)).2.1), .int .u32 ((applyT ⟨S.q, S.s, S.m⟩ ((ls.getD j op0).kind) ((ls.getD j op0).key) ((ls.getD j op0).val)).2.2)] hS hg_292 ?_)
                      clear hS; intro w g_298 hg_299 hS
                      replace hS : K.Sat w0 [g_296, g_298, g1_268, g2_269, g3_270, g_42, g1_31, g2_32, g3_33, gr_34, g_2, fr, yb, zb, ub, ur, ug, uh, ui] w := hS
                      refine ⟨.inr (by kernel_rfl), ?_⟩
                      refine K.DW.done (by kernel_rfl) ?_
                      refine K.thn_normal ?_
                      exact ⟨r_293, r_290, a1_262, c1_263, a2_264, c2_265, a3_266, c3_267, g_296, g_298, g1_268, g2_269, g3_270, ⟨by rfl, by rfl, by rfl, by rfl, by rfl, by rfl, by rfl, by rfl, by rfl, by rfl, by rfl, by rfl, trivial⟩, (by assumption), hg_297, hg_299, x1_271, x2_272, x3_273, hS.pick [5, 6, 7, 8, 9, 10, 11, 12, 13, 14, 15, 16, 17, 18, 0, 1, 2, 3, 4]⟩
                  ·  -- first 9
                    refine (K.OW.gnew 42 [.slice none 0 0, .slice none 0 0, .slice none 0 0] hS ?_)
                    clear hS; intro w r_300 g_301 hg_302 hS
                    refine ⟨.inl (hS.pick [11]), ?_⟩
                    refine K.DW.l2 5 10 rfl rfl (by kernel_rfl) rfl rfl ?_ ?_
                    ·  -- first 5
                      refine (K.OW.gcall hS [3, 2, 1] [0, 4, 5, 6, 7, 8, 9, 10, 11, 12, 13, 14, 15, 16, 17] [.agg #[.slice yq S.q.length yd, .slice ys S.s.length ye, .slice ym S.m.length yf], .agg #[.int .i64 ((ls.getD j op0).kind), .int .u32 ((ls.getD j op0).key), .int .u32 ((ls.getD j op0).val)]] (rapply_ok _ _ _ _ _ _ _ S.q S.s S.m ((ls.getD j op0).kind) ((ls.getD j op0).key) ((ls.getD j op0).val) (by omega) (by omega) (by omega) (by assumption) (by assumption) (by omega) _ x_98 _ x_99 _ x_100) ?_)
                      clear hS; rintro _ _ w ⟨a1_303, c1_304, a2_305, c2_306, a3_307, c3_308, g1_309, g2_310, g3_311, rfl, rfl, x1_312, x2_313, x3_314, hc_315⟩ hS
                      replace hS : K.Sat w0 [g1_309, g2_310, g3_311, g_301, g_42, g1_31, g2_32, g3_33, gr_34, g_2, fr, yb, zb, ub, ur, ug, uh, ui] w := hS
                      obtain ⟨h_316, h_317, h_318, h_319, h_320⟩ := applyT_okE (q := S.q) (s := S.s) (m := S.m) (kind := (ls.getD j op0).kind) (key := (ls.getD j op0).key) (val := (ls.getD j op0).val) (by assumption) (by assumption)
                      refine ⟨.inl (hS.pick [11]), ?_⟩
                      refine K.DW.q 6 (by kernel_rfl) rfl rfl (by kernel_rfl) rfl (fun w hS => K.QR.k (v := .tuple #[.agg #[.slice a1_303 ((applyT ⟨S.q, S.s, S.m⟩ ((ls.getD j op0).kind) ((ls.getD j op0).key) ((ls.getD j op0).val)).1.q.length) c1_304, .slice a2_305 ((applyT ⟨S.q, S.s, S.m⟩ ((ls.getD j op0).kind) ((ls.getD j op0).key) ((ls.getD j op0).val)).1.s.length) c2_306, .slice a3_307 ((applyT ⟨S.q, S.s, S.m⟩ ((ls.getD j op0).kind) ((ls.getD j op0).key) ((ls.getD j op0).val)).1.m.length) c3_308], .agg #[.int .i64 ((applyT ⟨S.q, S.s, S.m⟩ ((ls.getD j op0).kind) ((ls.getD j op0).key) ((ls.getD j op0).val)).2.1), .int .u32 ((applyT ⟨S.q, S.s, S.m⟩ ((ls.getD j op0).kind) ((ls.getD j op0).key) ((ls.getD j op0).val)).2.2)]]) (by kernel_rfl)) (hS.pick [11]) ?_
                      refine K.DW.q 7 (by kernel_rfl) rfl rfl (by kernel_rfl) rfl (fun w hS => K.QR.k (v := .agg #[.slice a1_303 ((applyT ⟨S.q, S.s, S.m⟩ ((ls.getD j op0).kind) ((ls.getD j op0).key) ((ls.getD j op0).val)).1.q.length) c1_304, .slice a2_305 ((applyT ⟨S.q, S.s, S.m⟩ ((ls.getD j op0).kind) ((ls.getD j op0).key) ((ls.getD j op0).val)).1.s.length) c2_306, .slice a3_307 ((applyT ⟨S.q, S.s, S.m⟩ ((ls.getD j op0).kind) ((ls.getD j op0).key) ((ls.getD j op0).val)).1.m.length) c3_308]) (by kernel_rfl)) (hS.pick [11]) ?_
                      refine K.DW.q 8 (by kernel_rfl) rfl rfl (by kernel_rfl) rfl (fun w hS => K.QR.k (v := .agg #[.int .i64 ((applyT ⟨S.q, S.s, S.m⟩ ((ls.getD j op0).kind) ((ls.getD j op0).key) ((ls.getD j op0).val)).2.1), .int .u32 ((applyT ⟨S.q, S.s, S.m⟩ ((ls.getD j op0).kind) ((ls.getD j op0).key) ((ls.getD j op0).val)).2.2)]) (by kernel_rfl)) (hS.pick [11]) ?_
                      refine K.DW.l 10 rfl (by kernel_rfl) rfl (K.OW.gnew 52 [.int .i64 0, .int .u32 0] hS ?_)
                      clear hS; intro w r_321 g_322 hg_323 hS
                      refine ⟨.inl (hS.pick [12]), ?_⟩
                      refine K.DW.l 11 rfl (by kernel_rfl) rfl (K.OW.gst 4 [.slice a1_303 ((applyT ⟨S.q, S.s, S.m⟩ ((ls.getD j op0).kind) ((ls.getD j op0).key) ((ls.getD j op0).val)).1.q.length) c1_304, .slice a2_305 ((applyT ⟨S.q, S.s, S.m⟩ ((ls.getD j op0).kind) ((ls.getD j op0).key) ((ls.getD j op0).val)).1.s.length) c2_306, .slice a3_307 ((applyT ⟨S.q, S.s, S.m⟩ ((ls.getD j op0).kind) ((ls.getD j op0).key) ((ls.getD j op0).val)).1.m.length) c3_308] [.slice a1_303 ((applyT ⟨S.q, S.s, S.m⟩ ((ls.getD j op0).kind) ((ls.getD j op0).key) ((ls.getD j op0).val)).1.q.length) c1_304, .slice a2_305 ((applyT ⟨S.q, S.s, S.m⟩ ((ls.getD j op0).kind) ((ls.getD j op0).key) ((ls.getD j op0).val)).1.s.length) c2_306, .slice a3_307 ((applyT ⟨S.q, S.s, S.m⟩ ((ls.getD j op0).kind) ((ls.getD j op0).key) ((ls.getD j op0).val)).1.m.length) c3_308] hS hg_302 ?_)
                      clear hS; intro w g_324 hg_325 hS
                      replace hS : K.Sat w0 [g_322, g1_309, g2_310, g3_311, g_324, g_42, g1_31, g2_32, g3_33, gr_34, g_2, fr, yb, zb, ub, ur, ug, uh, ui] w := hS
                      refine ⟨.inl (hS.pick [12]), ?_⟩
                      refine K.DW.l 12 rfl (by kernel_rfl) rfl (K.OW.gst 0 [.int .i64 ((applyT ⟨S.q, S.s, S.m⟩ ((ls.getD j op0).kind) ((ls.getD j op0).key) ((ls.getD j op0).val)).2.1), .int .u32 ((applyT ⟨S.q, S.s, S.m⟩ ((ls.getD j op0).kind) ((ls.getD j op0).key) ((ls.getD j op0).val)).2.2)] [.int .i64 ((applyT ⟨S.q, S.s, S.m⟩ ((ls.getD j op0).kind) ((ls.getD j op0).key) ((ls.getD j op0).val)).2.1), .int .u32 ((applyT ⟨S.q, S.s, S.m⟩ ((ls.getD j op0).kind) ((ls.getD j op0).key) ((ls.getD j op0).val)).2.2)] hS hg_323 ?_)
                      clear hS; intro w g_326 hg_327 hS
                      replace hS : K.Sat w0 [g_326, g1_309, g2_310, g3_311, g_324, g_42, g1_31, g2_32, g3_33, gr_34, g_2, fr, yb, zb, ub, ur, ug, uh, ui] w := hS
                      refine ⟨.inr (by kernel_rfl), ?_⟩
                      refine K.DW.done (by kernel_rfl) ?_
                      refine K.thn_normal ?_
                      exact ⟨r_300, r_321, a1_303, c1_304, a2_305, c2_306, a3_307, c3_308, g_324, g_326, g1_309, g2_310, g3_311, ⟨by rfl, by rfl, by rfl, by rfl, by rfl, by rfl, by rfl, by rfl, by rfl, by rfl, by rfl, by rfl, trivial⟩, (by assumption), hg_325, hg_327, x1_312, x2_313, x3_314, hS.pick [5, 6, 7, 8, 9, 10, 11, 12, 13, 14, 15, 16, 17, 18, 4, 0, 1, 2, 3]⟩
                    ·  -- first 10
                      refine (K.OW.gnew 52 [.int .i64 0, .int .u32 0] hS ?_)
                      clear hS; intro w r_328 g_329 hg_330 hS
                      refine ⟨.inl (hS.pick [12]), ?_⟩
                      refine K.DW.l 5 rfl (by kernel_rfl) rfl (K.OW.gcall hS [4, 3, 2] [0, 1, 5, 6, 7, 8, 9, 10, 11, 12, 13, 14, 15, 16, 17, 18] [.agg #[.slice yq S.q.length yd, .slice ys S.s.length ye, .slice ym S.m.length yf], .agg #[.int .i64 ((ls.getD j op0).kind), .int .u32 ((ls.getD j op0).key), .int .u32 ((ls.getD j op0).val)]] (rapply_ok _ _ _ _ _ _ _ S.q S.s S.m ((ls.getD j op0).kind) ((ls.getD j op0).key) ((ls.getD j op0).val) (by omega) (by omega) (by omega) (by assumption) (by assumption) (by omega) _ x_98 _ x_99 _ x_100) ?_)
                      clear hS; rintro _ _ w ⟨a1_331, c1_332, a2_333, c2_334, a3_335, c3_336, g1_337, g2_338, g3_339, rfl, rfl, x1_340, x2_341, x3_342, hc_343⟩ hS
                      replace hS : K.Sat w0 [g1_337, g2_338, g3_339, g_329, g_301, g_42, g1_31, g2_32, g3_33, gr_34, g_2, fr, yb, zb, ub, ur, ug, uh, ui] w := hS
                      obtain ⟨h_344, h_345, h_346, h_347, h_348⟩ := applyT_okE (q := S.q) (s := S.s) (m := S.m) (kind := (ls.getD j op0).kind) (key := (ls.getD j op0).key) (val := (ls.getD j op0).val) (by assumption) (by assumption)
                      refine ⟨.inl (hS.pick [12]), ?_⟩
                      refine K.DW.l 6 rfl (by kernel_rfl) rfl (K.OW.q rfl (K.QR.k (v := .tuple #[.agg #[.slice a1_331 ((applyT ⟨S.q, S.s, S.m⟩ ((ls.getD j op0).kind) ((ls.getD j op0).key) ((ls.getD j op0).val)).1.q.length) c1_332, .slice a2_333 ((applyT ⟨S.q, S.s, S.m⟩ ((ls.getD j op0).kind) ((ls.getD j op0).key) ((ls.getD j op0).val)).1.s.length) c2_334, .slice a3_335 ((applyT ⟨S.q, S.s, S.m⟩ ((ls.getD j op0).kind) ((ls.getD j op0).key) ((ls.getD j op0).val)).1.m.length) c3_336], .agg #[.int .i64 ((applyT ⟨S.q, S.s, S.m⟩ ((ls.getD j op0).kind) ((ls.getD j op0).key) ((ls.getD j op0).val)).2.1), .int .u32 ((applyT ⟨S.q, S.s, S.m⟩ ((ls.getD j op0).kind) ((ls.getD j op0).key) ((ls.getD j op0).val)).2.2)]]) (by kernel_rfl)) ?_)
                      refine ⟨.inl (hS.pick [12]), ?_⟩
                      refine K.DW.q 7 (by kernel_rfl) rfl rfl (by kernel_rfl) rfl (fun w hS => K.QR.k (v := .agg #[.slice a1_331 ((applyT ⟨S.q, S.s, S.m⟩ ((ls.getD j op0).kind) ((ls.getD j op0).key) ((ls.getD j op0).val)).1.q.length) c1_332, .slice a2_333 ((applyT ⟨S.q, S.s, S.m⟩ ((ls.getD j op0).kind) ((ls.getD j op0).key) ((ls.getD j op0).val)).1.s.length) c2_334, .slice a3_335 ((applyT ⟨S.q, S.s, S.m⟩ ((ls.getD j op0).kind) ((ls.getD j op0).key) ((ls.getD j op0).val)).1.m.length) c3_336]) (by kernel_rfl)) (hS.pick [12]) ?_
                      refine K.DW.q 8 (by kernel_rfl) rfl rfl (by kernel_rfl) rfl (fun w hS => K.QR.k (v := .agg #[.int .i64 ((applyT ⟨S.q, S.s, S.m⟩ ((ls.getD j op0).kind) ((ls.getD j op0).key) ((ls.getD j op0).val)).2.1), .int .u32 ((applyT ⟨S.q, S.s, S.m⟩ ((ls.getD j op0).kind) ((ls.getD j op0).key) ((ls.getD j op0).val)).2.2)]) (by kernel_rfl)) (hS.pick [12]) ?_
                      refine K.DW.l 11 rfl (by kernel_rfl) rfl (K.OW.gst 4 [.slice a1_331 ((applyT ⟨S.q, S.s, S.m⟩ ((ls.getD j op0).kind) ((ls.getD j op0).key) ((ls.getD j op0).val)).1.q.length) c1_332, .slice a2_333 ((applyT ⟨S.q, S.s, S.m⟩ ((ls.getD j op0).kind) ((ls.getD j op0).key) ((ls.getD j op0).val)).1.s.length) c2_334, .slice a3_335 ((applyT ⟨S.q, S.s, S.m⟩ ((ls.getD j op0).kind) ((ls.getD j op0).key) ((ls.getD j op0).val)).1.m.length) c3_336] [.slice a1_331 ((applyT ⟨S.q, S.s, S.m⟩ ((ls.getD j op0).kind) ((ls.getD j op0).key) ((ls.getD j op0).val)).1.q.length) c1_332, .slice a2_333 ((applyT ⟨S.q, S.s, S.m⟩ ((ls.getD j op0).kind) ((ls.getD j op0).key) ((ls.getD j op0).val)).1.s.length) c2_334, .slice a3_335 ((applyT ⟨S.q, S.s, S.m⟩ ((ls.getD j op0).kind) ((ls.getD j op0).key) ((ls.getD j op0).val)).1.m.length) c3_336] hS hg_302 ?_)
                      clear hS; intro w g_349 hg_350 hS
                      replace hS : K.Sat w0 [g1_337, g2_338, g3_339, g_329, g_349, g_42, g1_31, g2_32, g3_33, gr_34, g_2, fr, yb, zb, ub, ur, ug, uh, ui] w := hS
                      refine ⟨.inl (hS.pick [12]), ?_⟩
                      refine K.DW.l 12 rfl (by kernel_rfl) rfl (K.OW.gst 3 [.int .i64 ((applyT ⟨S.q, S.s, S.m⟩ ((ls.getD j op0).kind) ((ls.getD j op0).key) ((ls.getD j op0).val)).2.1), .int .u32 ((applyT ⟨S.q, S.s, S.m⟩ ((ls.getD j op0).kind) ((ls.getD j op0).key) ((ls.getD j op0).val)).2.2)] [.int .i64 ((applyT ⟨S.q, S.s, S.m⟩ ((ls.getD j op0).kind) ((ls.getD j op0).key) ((ls.getD j op0).val)).2.1), .int .u32 ((applyT ⟨S.q, S.s, S.m⟩ ((ls.getD j op0).kind) ((ls.getD j op0).key) ((ls.getD j op0).val)).2.2)] hS hg_330 ?_)
                      clear hS; intro w g_351 hg_352 hS
                      replace hS : K.Sat w0 [g1_337, g2_338, g3_339, g_351, g_349, g_42, g1_31, g2_32, g3_33, gr_34, g_2, fr, yb, zb, ub, ur, ug, uh, ui] w := hS
                      refine ⟨.inr (by kernel_rfl), ?_⟩
                      refine K.DW.done (by kernel_rfl) ?_
                      refine K.thn_normal ?_
                      exact ⟨r_300, r_328, a1_331, c1_332, a2_333, c2_334, a3_335, c3_336, g_349, g_351, g1_337, g2_338, g3_339, ⟨by rfl, by rfl, by rfl, by rfl, by rfl, by rfl, by rfl, by rfl, by rfl, by rfl, by rfl, by rfl, trivial⟩, (by assumption), hg_350, hg_352, x1_340, x2_341, x3_342, hS.pick [5, 6, 7, 8, 9, 10, 11, 12, 13, 14, 15, 16, 17, 18, 4, 3, 0, 1, 2]⟩
                  ·  -- first 10
                    refine (K.OW.gnew 52 [.int .i64 0, .int .u32 0] hS ?_)
                    clear hS; intro w r_353 g_354 hg_355 hS
                    refine ⟨.inl (hS.pick [11]), ?_⟩
                    refine K.DW.l2 5 9 rfl rfl (by kernel_rfl) rfl rfl ?_ ?_
                    ·  -- first 5
                      refine (K.OW.gcall hS [3, 2, 1] [0, 4, 5, 6, 7, 8, 9, 10, 11, 12, 13, 14, 15, 16, 17] [.agg #[.slice yq S.q.length yd, .slice ys S.s.length ye, .slice ym S.m.length yf], .agg #[.int .i64 ((ls.getD j op0).kind), .int .u32 ((ls.getD j op0).key), .int .u32 ((ls.getD j op0).val)]] (rapply_ok _ _ _ _ _ _ _ S.q S.s S.m ((ls.getD j op0).kind) ((ls.getD j op0).key) ((ls.getD j op0).val) (by omega) (by omega) (by omega) (by assumption) (by assumption) (by omega) _ x_98 _ x_99 _ x_100) ?_)
                      clear hS; rintro _ _ w ⟨a1_356, c1_357, a2_358, c2_359, a3_360, c3_361, g1_362, g2_363, g3_364, rfl, rfl, x1_365, x2_366, x3_367, hc_368⟩ hS
                      replace hS : K.Sat w0 [g1_362, g2_363, g3_364, g_354, g_42, g1_31, g2_32, g3_33, gr_34, g_2, fr, yb, zb, ub, ur, ug, uh, ui] w := hS
                      obtain ⟨h_369, h_370, h_371, h_372, h_373⟩ := applyT_okE (q := S.q) (s := S.s) (m := S.m) (kind := (ls.getD j op0).kind) (key := (ls.getD j op0).key) (val := (ls.getD j op0).val) (by assumption) (by assumption)
                      refine ⟨.inl (hS.pick [11]), ?_⟩
                      refine K.DW.q 6 (by kernel_rfl) rfl rfl (by kernel_rfl) rfl (fun w hS => K.QR.k (v := .tuple #[.agg #[.slice a1_356 ((applyT ⟨S.q, S.s, S.m⟩ ((ls.getD j op0).kind) ((ls.getD j op0).key) ((ls.getD j op0).val)).1.q.length) c1_357, .slice a2_358 ((applyT ⟨S.q, S.s, S.m⟩ ((ls.getD j op0).kind) ((ls.getD j op0).key) ((ls.getD j op0).val)).1.s.length) c2_359, .slice a3_360 ((applyT ⟨S.q, S.s, S.m⟩ ((ls.getD j op0).kind) ((ls.getD j op0).key) ((ls.getD j op0).val)).1.m.length) c3_361], .agg #[.int .i64 ((applyT ⟨S.q, S.s, S.m⟩ ((ls.getD j op0).kind) ((ls.getD j op0).key) ((ls.getD j op0).val)).2.1), .int .u32 ((applyT ⟨S.q, S.s, S.m⟩ ((ls.getD j op0).kind) ((ls.getD j op0).key) ((ls.getD j op0).val)).2.2)]]) (by kernel_rfl)) (hS.pick [11]) ?_
                      refine K.DW.q 7 (by kernel_rfl) rfl rfl (by kernel_rfl) rfl (fun w hS => K.QR.k (v := .agg #[.slice a1_356 ((applyT ⟨S.q, S.s, S.m⟩ ((ls.getD j op0).kind) ((ls.getD j op0).key) ((ls.getD j op0).val)).1.q.length) c1_357, .slice a2_358 ((applyT ⟨S.q, S.s, S.m⟩ ((ls.getD j op0).kind) ((ls.getD j op0).key) ((ls.getD j op0).val)).1.s.length) c2_359, .slice a3_360 ((applyT ⟨S.q, S.s, S.m⟩ ((ls.getD j op0).kind) ((ls.getD j op0).key) ((ls.getD j op0).val)).1.m.length) c3_361]) (by kernel_rfl)) (hS.pick [11]) ?_
                      refine K.DW.q 8 (by kernel_rfl) rfl rfl (by kernel_rfl) rfl (fun w hS => K.QR.k (v := .agg #[.int .i64 ((applyT ⟨S.q, S.s, S.m⟩ ((ls.getD j op0).kind) ((ls.getD j op0).key) ((ls.getD j op0).val)).2.1), .int .u32 ((applyT ⟨S.q, S.s, S.m⟩ ((ls.getD j op0).kind) ((ls.getD j op0).key) ((ls.getD j op0).val)).2.2)]) (by kernel_rfl)) (hS.pick [11]) ?_
                      refine K.DW.l 9 rfl (by kernel_rfl) rfl (K.OW.gnew 42 [.slice none 0 0, .slice none 0 0, .slice none 0 0] hS ?_)
                      clear hS; intro w r_374 g_375 hg_376 hS
                      refine ⟨.inl (hS.pick [12]), ?_⟩
                      refine K.DW.l 11 rfl (by kernel_rfl) rfl (K.OW.gst 0 [.slice a1_356 ((applyT ⟨S.q, S.s, S.m⟩ ((ls.getD j op0).kind) ((ls.getD j op0).key) ((ls.getD j op0).val)).1.q.length) c1_357, .slice a2_358 ((applyT ⟨S.q, S.s, S.m⟩ ((ls.getD j op0).kind) ((ls.getD j op0).key) ((ls.getD j op0).val)).1.s.length) c2_359, .slice a3_360 ((applyT ⟨S.q, S.s, S.m⟩ ((ls.getD j op0).kind) ((ls.getD j op0).key) ((ls.getD j op0).val)).1.m.length) c3_361] [.slice a1_356 ((applyT ⟨S.q, S.s, S.m⟩ ((ls.getD j op0).kind) ((ls.getD j op0).key) ((ls.getD j op0).val)).1.q.length) c1_357, .slice a2_358 ((applyT ⟨S.q, S.s, S.m⟩ ((ls.getD j op0).kind) ((ls.getD j op0).key) ((ls.getD j op0).val)).1.s.length) c2_359, .slice a3_360 ((applyT ⟨S.q, S.s, S.m⟩ ((ls.getD j op0).kind) ((ls.getD j op0).key) ((ls.getD j op0).val)).1.m.length) c3_361] hS hg_376 ?_)
                      clear hS; intro w g_377 hg_378 hS
                      replace hS : K.Sat w0 [g_377, g1_362, g2_363, g3_364, g_354, g_42, g1_31, g2_32, g3_33, gr_34, g_2, fr, yb, zb, ub, ur, ug, uh, ui] w := hS
                      refine ⟨.inl (hS.pick [12]), ?_⟩
                      refine K.DW.l 12 rfl (by kernel_rfl) rfl (K.OW.gst 4 [.int .i64 ((applyT ⟨S.q, S.s, S.m⟩ ((ls.getD j op0).kind) ((ls.getD j op0).key) ((ls.getD j op0).val)).2.1), .int .u32 ((applyT ⟨S.q, S.s, S.m⟩ ((ls.getD j op0).kind) ((ls.getD j op0).key) ((ls.getD j op0).val)).2.2)] [.int .i64 ((applyT ⟨S.q, S.s, S.m⟩ ((ls.getD j op0).kind) ((ls.getD j op0).key) ((ls.getD j op0).val)).2.1), .int .u32 ((applyT ⟨S.q, S.s, S.m⟩ ((ls.getD j op0).kind) ((ls.getD j op0).key) ((ls.getD j op0).val)).2.2)] hS hg_355 ?_)
                      clear hS; intro w g_379 hg_380 hS
                      replace hS : K.Sat w0 [g_377, g1_362, g2_363, g3_364, g_379, g_42, g1_31, g2_32, g3_33, gr_34, g_2, fr, yb, zb, ub, ur, ug, uh, ui] w := hS
                      refine ⟨.inr (by kernel_rfl), ?_⟩
                      refine K.DW.done (by kernel_rfl) ?_
                      refine K.thn_normal ?_
                      exact ⟨r_374, r_353, a1_356, c1_357, a2_358, c2_359, a3_360, c3_361, g_377, g_379, g1_362, g2_363, g3_364, ⟨by rfl, by rfl, by rfl, by rfl, by rfl, by rfl, by rfl, by rfl, by rfl, by rfl, by rfl, by rfl, trivial⟩, (by assumption), hg_378, hg_380, x1_365, x2_366, x3_367, hS.pick [5, 6, 7, 8, 9, 10, 11, 12, 13, 14, 15, 16, 17, 18, 0, 4, 1, 2, 3]⟩
                    ·  -- first 9
                      refine (K.OW.gnew 42 [.slice none 0 0, .slice none 0 0, .slice none 0 0] hS ?_)
                      clear hS; intro w r_381 g_382 hg_383 hS
                      refine ⟨.inl (hS.pick [12]), ?_⟩
                      refine K.DW.l 5 rfl (by kernel_rfl) rfl (K.OW.gcall hS [4, 3, 2] [0, 1, 5, 6, 7, 8, 9, 10, 11, 12, 13, 14, 15, 16, 17, 18] [.agg #[.slice yq S.q.length yd, .slice ys S.s.length ye, .slice ym S.m.length yf], .agg #[.int .i64 ((ls.getD j op0).kind), .int .u32 ((ls.getD j op0).key), .int .u32 ((ls.getD j op0).val)]] (rapply_ok _ _ _ _ _ _ _ S.q S.s S.m ((ls.getD j op0).kind) ((ls.getD j op0).key) ((ls.getD j op0).val) (by omega) (by omega) (by omega) (by assumption) (by assumption) (by omega) _ x_98 _ x_99 _ x_100) ?_)
                      clear hS; rintro _ _ w ⟨a1_384, c1_385, a2_386, c2_387, a3_388, c3_389, g1_390, g2_391, g3_392, rfl, rfl, x1_393, x2_394, x3_395, hc_396⟩ hS
                      replace hS : K.Sat w0 [g1_390, g2_391, g3_392, g_382, g_354, g_42, g1_31, g2_32, g3_33, gr_34, g_2, fr, yb, zb, ub, ur, ug, uh, ui] w := hS
                      obtain ⟨h_397, h_398, h_399, h_400, h_401⟩ := applyT_okE (q := S.q) (s := S.s) (m := S.m) (kind := (ls.getD j op0).kind) (key := (ls.getD j op0).key) (val := (ls.getD j op0).val) (by assumption) (by assumption)
                      refine ⟨.inl (hS.pick [12]), ?_⟩
                      refine K.DW.l 6 rfl (by kernel_rfl) rfl (K.OW.q rfl (K.QR.k (v := .tuple #[.agg #[.slice a1_384 ((applyT ⟨S.q, S.s, S.m⟩ ((ls.getD j op0).kind) ((ls.getD j op0).key) ((ls.getD j op0).val)).1.q.length) c1_385, .slice a2_386 ((applyT ⟨S.q, S.s, S.m⟩ ((ls.getD j op0).kind) ((ls.getD j op0).key) ((ls.getD j op0).val)).1.s.length) c2_387, .slice a3_388 ((applyT ⟨S.q, S.s, S.m⟩ ((ls.getD j op0).kind) ((ls.getD j op0).key) ((ls.getD j op0).val)).1.m.length) c3_389], .agg #[.int .i64 ((applyT ⟨S.q, S.s, S.m⟩ ((ls.getD j op0).kind) ((ls.getD j op0).key) ((ls.getD j op0).val)).2.1), .int .u32 ((applyT ⟨S.q, S.s, S.m⟩ ((ls.getD j op0).kind) ((ls.getD j op0).key) ((ls.getD j op0).val)).2.2)]]) (by kernel_rfl)) ?_)
                      refine ⟨.inl (hS.pick [12]), ?_⟩
                      refine K.DW.q 7 (by kernel_rfl) rfl rfl (by kernel_rfl) rfl (fun w hS => K.QR.k (v := .agg #[.slice a1_384 ((applyT ⟨S.q, S.s, S.m⟩ ((ls.getD j op0).kind) ((ls.getD j op0).key) ((ls.getD j op0).val)).1.q.length) c1_385, .slice a2_386 ((applyT ⟨S.q, S.s, S.m⟩ ((ls.getD j op0).kind) ((ls.getD j op0).key) ((ls.getD j op0).val)).1.s.length) c2_387, .slice a3_388 ((applyT ⟨S.q, S.s, S.m⟩ ((ls.getD j op0).kind) ((ls.getD j op0).key) ((ls.getD j op0).val)).1.m.length) c3_389]) (by kernel_rfl)) (hS.pick [12]) ?_
                      refine K.DW.q 8 (by kernel_rfl) rfl rfl (by kernel_rfl) rfl (fun w hS => K.QR.k (v := .agg #[.int .i64 ((applyT ⟨S.q, S.s, S.m⟩ ((ls.getD j op0).kind) ((ls.getD j op0).key) ((ls.getD j op0).val)).2.1), .int .u32 ((applyT ⟨S.q, S.s, S.m⟩ ((ls.getD j op0).kind) ((ls.getD j op0).key) ((ls.getD j op0).val)).2.2)]) (by kernel_rfl)) (hS.pick [12]) ?_
                      refine K.DW.l 11 rfl (by kernel_rfl) rfl (K.OW.gst 3 [.slice a1_384 ((applyT ⟨S.q, S.s, S.m⟩ ((ls.getD j op0).kind) ((ls.getD j op0).key) ((ls.getD j op0).val)).1.q.length) c1_385, .slice a2_386 ((applyT ⟨S.q, S.s, S.m⟩ ((ls.getD j op0).kind) ((ls.getD j op0).key) ((ls.getD j op0).val)).1.s.length) c2_387, .slice a3_388 ((applyT ⟨S.q, S.s, S.m⟩ ((ls.getD j op0).kind) ((ls.getD j op0).key) ((ls.getD j op0).val)).1.m.length) c3_389] [.slice a1_384 ((applyT ⟨S.q, S.s, S.m⟩ ((ls.getD j op0).kind) ((ls.getD j op0).key) ((ls.getD j op0).val)).1.q.length) c1_385, .slice a2_386 ((applyT ⟨S.q, S.s, S.m⟩ ((ls.getD j op0).kind) ((ls.getD j op0).key) ((ls.getD j op0).val)).1.s.length) c2_387, .slice a3_388 ((applyT ⟨S.q, S.s, S.m⟩ ((ls.getD j op0).kind) ((ls.getD j op0).key) ((ls.getD j op0).val)).1.m.length) c3_389] hS hg_383 ?_)
                      clear hS; intro w g_402 hg_403 hS
                      replace hS : K.Sat w0 [g1_390, g2_391, g3_392, g_402, g_354, g_42, g1_31, g2_32, g3_33, gr_34, g_2, fr, yb, zb, ub, ur, ug, uh, ui] w := hS
                      refine ⟨.inl (hS.pick [12]), ?_⟩
                      refine K.DW.l 12 rfl (by kernel_rfl) rfl (K.OW.gst 4 [.int .i64 ((applyT ⟨S.q, S.s, S.m⟩ ((ls.getD j op0).kind) ((ls.getD j op0).key) ((ls.getD j op0).val)).2.1), .int .u32 ((applyT ⟨S.q, S.s, S.m⟩ ((ls.getD j op0).kind) ((ls.getD j op0).key) ((ls.getD j op0).val)).2.2)] [.int .i64 ((applyT ⟨S.q, S.s, S.m⟩ ((ls.getD j op0).kind) ((ls.getD j op0).key) ((ls.getD j op0).val)).2.1), .int .u32 ((applyT ⟨S.q, S.s, S.m⟩ ((ls.getD j op0).kind) ((ls.getD j op0).key) ((ls.getD j op0).val)).2.2)] hS hg_355 ?_)
                      clear hS; intro w g_404 hg_405 hS
                      replace hS : K.Sat w0 [g1_390, g2_391, g3_392, g_402, g_404, g_42, g1_31, g2_32, g3_33, gr_34, g_2, fr, yb, zb, ub, ur, ug, uh, ui] w := hS
                      refine ⟨.inr (by kernel_rfl), ?_⟩
                      refine K.DW.done (by kernel_rfl) ?_
                      refine K.thn_normal ?_
                      exact ⟨r_381, r_353, a1_384, c1_385, a2_386, c2_387, a3_388, c3_389, g_402, g_404, g1_390, g2_391, g3_392, ⟨by rfl, by rfl, by rfl, by rfl, by rfl, by rfl, by rfl, by rfl, by rfl, by rfl, by rfl, by rfl, trivial⟩, (by assumption), hg_403, hg_405, x1_393, x2_394, x3_395, hS.pick [5, 6, 7, 8, 9, 10, 11, 12, 13, 14, 15, 16, 17, 18, 3, 4, 0, 1, 2]⟩
                · -- behind
                  clear hS
                  intro F_406 w hI
                  obtain ⟨vB, vR, vq, vd, vs, ve, vm, vf, vb, vr, vg, vh, vi, sl_407, p_408, x_409, x_410, x_411, x_412, x_413, hS⟩ := hI
                  rw [← K.Sl.puts sl_407]; clear sl_407
                  obtain ⟨vk0, vk1, vk2, vk3, vk4⟩ := applyT_okE (q := S.q) (s := S.s) (m := S.m) (kind := (ls.getD j op0).kind) (key := (ls.getD j op0).key) (val := (ls.getD j op0).val) (by assumption) (by assumption)
                  refine K.KW.seq ?_
                  refine K.KW.seq ?_
                  -- 14 :58
                  obtain ⟨b_414, of_415, rfl, _⟩ := x4.at_ (by omega)
                  have hrl := runT_len ls ⟨qa, sa, ma⟩
                  have hrg := runT_get1 hrun (show j < ls.length by omega)
                  obtain ⟨b_416, rfl⟩ := o_38.some_ (by have := o_38.le; omega)
                  refine K.KW.gdrawn [4, 9, 10] hS (by kernel_rfl) ?_
                  clear hS; intro w hS
                  refine K.DW.q 0 (by kernel_rfl) rfl rfl (by kernel_rfl) rfl (fun w hS => K.QR.ldN [.int .i64 ((applyT ⟨S.q, S.s, S.m⟩ (ls.getD j op0).kind (ls.getD j op0).key (ls.getD j op0).val).2.1), .int .u32 ((applyT ⟨S.q, S.s, S.m⟩ (ls.getD j op0).kind (ls.getD j op0).key (ls.getD j op0).val).2.2)] rfl rfl (by kernel_rfl) (by kernel_rfl) (K.cells (K.cl ((hS.blk 2 rfl x_256).cell rfl) (K.cl ((hS.blk 2 rfl x_256).cell rfl) K.cl0)))) (hS.pick [4, 9, 10]) ?_
                  refine K.DW.l 1 rfl (by kernel_rfl) rfl (K.OW.q rfl (K.QR.ldN [.int .i64 ((applyT ⟨S.q, S.s, S.m⟩ (ls.getD j op0).kind (ls.getD j op0).key (ls.getD j op0).val).2.1), .int .u32 ((applyT ⟨S.q, S.s, S.m⟩ (ls.getD j op0).kind (ls.getD j op0).key (ls.getD j op0).val).2.2)] rfl rfl (by kernel_rfl) (by kernel_rfl) (K.cells (K.cl ((hS.blk 15 rfl x_410).cell rfl) (K.cl ((hS.blk 15 rfl x_410).cell rfl) K.cl0)))) ?_)
                  refine ⟨.inl (hS.pick [4, 9, 10]), ?_⟩
                  refine K.DW.l 2 rfl (by kernel_rfl) rfl (K.OW.q rfl (K.QR.neS (by kernel_rfl) rfl rfl rfl (eqRes_t (⟨rfl, rfl⟩))) ?_)
                  refine ⟨.inl (hS.pick [4, 9, 10]), ?_⟩
                  refine K.DW.l 3 rfl (by kernel_rfl) rfl (K.OW.q rfl (K.QR.k (v := .bool false) (by kernel_rfl)) ?_)
                  refine ⟨.inl (hS.pick [4, 9, 10]), ?_⟩
                  refine K.DW.q 4 (by kernel_rfl) rfl rfl (by kernel_rfl) (by kernel_rfl) (fun w hS => K.QR.k (v := .slice (some ⟨b_416, 0, none⟩) ((runT ⟨qa, sa, ma⟩ ls).2.length) c_30) (by kernel_rfl)) (hS.pick [4, 9, 10]) ?_
                  refine K.DW.q 5 (by kernel_rfl) rfl rfl (by kernel_rfl) (by kernel_rfl) (fun w hS => K.QR.k (v := .int .i64 ((j : Nat) : Int)) (by kernel_rfl)) (hS.pick [4, 9, 10]) ?_
                  refine K.DW.q 6 (by kernel_rfl) rfl rfl (by kernel_rfl) (by kernel_rfl) (fun w hS => K.QR.ix (0 + j * 2) 2 rfl rfl rfl Try.underlying47 (by kernel_rfl) (by omega) (by first | (simp; done) | omega | (simp; omega))) (hS.pick [4, 9, 10]) ?_
                  refine K.DW.q 7 (by kernel_rfl) rfl rfl (by kernel_rfl) (by kernel_rfl) (fun w hS => K.QR.ldN [.int .i64 ((((runT ⟨qa, sa, ma⟩ ls).2).getD j ((0, 0) : Int × Int)).1), .int .u32 ((((runT ⟨qa, sa, ma⟩ ls).2).getD j ((0, 0) : Int × Int)).2)] rfl rfl (by kernel_rfl) (by kernel_rfl) (K.cells (K.cl ((K.Own.rowE ((0, 0) : Int × Int) (hS.ownr 0 rfl o_38) rfl (fun _ => rfl)).ld j (by omega) 0 _ rfl) (K.cl ((K.Own.rowE ((0, 0) : Int × Int) (hS.ownr 0 rfl o_38) rfl (fun _ => rfl)).ld j (by omega) 1 _ rfl) K.cl0)))) (hS.pick [4, 9, 10]) ?_
                  refine K.DW.l 8 rfl (by kernel_rfl) (by kernel_rfl) (K.OW.q rfl (K.QR.ldN [.int .i64 ((applyT ⟨S.q, S.s, S.m⟩ (ls.getD j op0).kind (ls.getD j op0).key (ls.getD j op0).val).2.1), .int .u32 ((applyT ⟨S.q, S.s, S.m⟩ (ls.getD j op0).kind (ls.getD j op0).key (ls.getD j op0).val).2.2)] rfl rfl (by kernel_rfl) (by kernel_rfl) (K.cells (K.cl ((hS.blk 15 rfl x_410).cell rfl) (K.cl ((hS.blk 15 rfl x_410).cell rfl) K.cl0)))) ?_)
                  refine ⟨.inl (hS.pick [4, 9, 10]), ?_⟩
                  refine K.DW.l 9 rfl (by kernel_rfl) (by kernel_rfl) (K.OW.q rfl (K.QR.neS (by kernel_rfl) rfl rfl rfl (eqRes_t (⟨by rw [hrg], by rw [hrg]⟩))) ?_)
                  refine ⟨.inl (hS.pick [4, 9, 10]), ?_⟩
                  refine K.DW.l 10 rfl (by kernel_rfl) rfl (K.OW.q rfl (K.QR.k (v := .bool false) (by kernel_rfl)) ?_)
                  refine ⟨.inl (hS.pick [4, 9, 10]), ?_⟩
                  refine K.DW.l 11 rfl (by kernel_rfl) rfl (K.OW.q rfl (K.QR.k (v := .bool false) (by kernel_rfl)) ?_)
                  refine ⟨.inl (hS.pick [4, 9, 10]), ?_⟩
                  refine K.DW.q 12 (by kernel_rfl) rfl rfl (by kernel_rfl) (by kernel_rfl) (fun w hS => K.QR.ldN [.slice uq ((applyT ⟨S.q, S.s, S.m⟩ (ls.getD j op0).kind (ls.getD j op0).key (ls.getD j op0).val).1.q.length) ud, .slice us ((applyT ⟨S.q, S.s, S.m⟩ (ls.getD j op0).kind (ls.getD j op0).key (ls.getD j op0).val).1.s.length) ue, .slice um ((applyT ⟨S.q, S.s, S.m⟩ (ls.getD j op0).kind (ls.getD j op0).key (ls.getD j op0).val).1.m.length) uf] rfl rfl (by kernel_rfl) (by kernel_rfl) (K.cells (K.cl ((hS.blk 1 rfl x_255).cell rfl) (K.cl ((hS.blk 1 rfl x_255).cell rfl) (K.cl ((hS.blk 1 rfl x_255).cell rfl) K.cl0))))) (hS.pick [4, 9, 10]) ?_
                  refine K.DW.l 13 rfl (by kernel_rfl) (by kernel_rfl) (K.OW.q rfl (K.QR.ldN [.slice vq ((applyT ⟨S.q, S.s, S.m⟩ (ls.getD j op0).kind (ls.getD j op0).key (ls.getD j op0).val).1.q.length) vd, .slice vs ((applyT ⟨S.q, S.s, S.m⟩ (ls.getD j op0).kind (ls.getD j op0).key (ls.getD j op0).val).1.s.length) ve, .slice vm ((applyT ⟨S.q, S.s, S.m⟩ (ls.getD j op0).kind (ls.getD j op0).key (ls.getD j op0).val).1.m.length) vf] rfl rfl (by kernel_rfl) (by kernel_rfl) (K.cells (K.cl ((hS.blk 14 rfl x_409).cell rfl) (K.cl ((hS.blk 14 rfl x_409).cell rfl) (K.cl ((hS.blk 14 rfl x_409).cell rfl) K.cl0))))) ?_)
                  refine ⟨.inl (hS.pick [4, 9, 10]), ?_⟩
                  refine K.DW.l 14 rfl (by kernel_rfl) (by kernel_rfl) (K.OW.kcall hS [.agg #[.slice uq ((applyT ⟨S.q, S.s, S.m⟩ (ls.getD j op0).kind (ls.getD j op0).key (ls.getD j op0).val).1.q.length) ud, .slice us ((applyT ⟨S.q, S.s, S.m⟩ (ls.getD j op0).kind (ls.getD j op0).key (ls.getD j op0).val).1.s.length) ue, .slice um ((applyT ⟨S.q, S.s, S.m⟩ (ls.getD j op0).kind (ls.getD j op0).key (ls.getD j op0).val).1.m.length) uf], .agg #[.slice vq ((applyT ⟨S.q, S.s, S.m⟩ (ls.getD j op0).kind (ls.getD j op0).key (ls.getD j op0).val).1.q.length) vd, .slice vs ((applyT ⟨S.q, S.s, S.m⟩ (ls.getD j op0).kind (ls.getD j op0).key (ls.getD j op0).val).1.s.length) ve, .slice vm ((applyT ⟨S.q, S.s, S.m⟩ (ls.getD j op0).kind (ls.getD j op0).key (ls.getD j op0).val).1.m.length) vf]] (lsame8_ok _ _ _ _ _ _ _ _ _ _ _ _ ((applyT ⟨S.q, S.s, S.m⟩ (ls.getD j op0).kind (ls.getD j op0).key (ls.getD j op0).val).1.q) ((applyT ⟨S.q, S.s, S.m⟩ (ls.getD j op0).kind (ls.getD j op0).key (ls.getD j op0).val).1.s) ((applyT ⟨S.q, S.s, S.m⟩ (ls.getD j op0).kind (ls.getD j op0).key (ls.getD j op0).val).1.q) ((applyT ⟨S.q, S.s, S.m⟩ (ls.getD j op0).kind (ls.getD j op0).key (ls.getD j op0).val).1.s) ((applyT ⟨S.q, S.s, S.m⟩ (ls.getD j op0).kind (ls.getD j op0).key (ls.getD j op0).val).1.m) ((applyT ⟨S.q, S.s, S.m⟩ (ls.getD j op0).kind (ls.getD j op0).key (ls.getD j op0).val).1.m) _ (by omega) (by omega) (by omega) (x_257 _ (hS.pick [11])) (x_258 _ (hS.pick [12])) (x_259 _ (hS.pick [13])) (x_411 _ (hS.pick [16])) (x_412 _ (hS.pick [17])) (x_413 _ (hS.pick [18]))) ?_)
                  rintro _ w ⟨rfl, c_418⟩
                  replace hS := hS.no c_418
                  have hb_419 : decide ((applyT ⟨S.q, S.s, S.m⟩ (ls.getD j op0).kind (ls.getD j op0).key (ls.getD j op0).val).1.q = (applyT ⟨S.q, S.s, S.m⟩ (ls.getD j op0).kind (ls.getD j op0).key (ls.getD j op0).val).1.q ∧ (applyT ⟨S.q, S.s, S.m⟩ (ls.getD j op0).kind (ls.getD j op0).key (ls.getD j op0).val).1.s = (applyT ⟨S.q, S.s, S.m⟩ (ls.getD j op0).kind (ls.getD j op0).key (ls.getD j op0).val).1.s ∧ (applyT ⟨S.q, S.s, S.m⟩ (ls.getD j op0).kind (ls.getD j op0).key (ls.getD j op0).val).1.m = (applyT ⟨S.q, S.s, S.m⟩ (ls.getD j op0).kind (ls.getD j op0).key (ls.getD j op0).val).1.m) = true := decide_eq_true ⟨rfl, rfl, rfl⟩
                  rw [hb_419]
                  refine ⟨.inl (hS.pick [4, 9, 10]), ?_⟩
                  refine K.DW.l 15 rfl (by kernel_rfl) (by kernel_rfl) (K.OW.q rfl (K.QR.k (v := .bool false) (by kernel_rfl)) ?_)
                  refine ⟨.inl (hS.pick [4, 9, 10]), ?_⟩
                  refine K.DW.l 16 rfl (by kernel_rfl) rfl (K.OW.q rfl (K.QR.k (v := .bool false) (by kernel_rfl)) ?_)
                  refine ⟨.inl (hS.pick [4, 9, 10]), ?_⟩
                  refine K.DW.l 17 rfl (by kernel_rfl) rfl (K.OW.q rfl (K.QR.k (v := .bool false) (by kernel_rfl)) ?_)
                  refine ⟨.inl (hS.pick [4, 9, 10]), ?_⟩
                  refine K.DW.l 18 rfl (by kernel_rfl) (by kernel_rfl) (K.OW.q rfl (K.QR.ldN [.slice uq ((applyT ⟨S.q, S.s, S.m⟩ (ls.getD j op0).kind (ls.getD j op0).key (ls.getD j op0).val).1.q.length) ud, .slice us ((applyT ⟨S.q, S.s, S.m⟩ (ls.getD j op0).kind (ls.getD j op0).key (ls.getD j op0).val).1.s.length) ue, .slice um ((applyT ⟨S.q, S.s, S.m⟩ (ls.getD j op0).kind (ls.getD j op0).key (ls.getD j op0).val).1.m.length) uf] rfl rfl (by kernel_rfl) (by kernel_rfl) (K.cells (K.cl ((hS.blk 9 rfl x_255).cell rfl) (K.cl ((hS.blk 9 rfl x_255).cell rfl) (K.cl ((hS.blk 9 rfl x_255).cell rfl) K.cl0))))) ?_)
                  refine ⟨.inl (hS.pick [4, 9, 10]), ?_⟩
                  refine K.DW.l 19 rfl (by kernel_rfl) (by kernel_rfl) (K.OW.kcall hS [.agg #[.slice uq ((applyT ⟨S.q, S.s, S.m⟩ (ls.getD j op0).kind (ls.getD j op0).key (ls.getD j op0).val).1.q.length) ud, .slice us ((applyT ⟨S.q, S.s, S.m⟩ (ls.getD j op0).kind (ls.getD j op0).key (ls.getD j op0).val).1.s.length) ue, .slice um ((applyT ⟨S.q, S.s, S.m⟩ (ls.getD j op0).kind (ls.getD j op0).key (ls.getD j op0).val).1.m.length) uf]] (right_ok _ _ _ _ _ _ _ ((applyT ⟨S.q, S.s, S.m⟩ (ls.getD j op0).kind (ls.getD j op0).key (ls.getD j op0).val).1.s) ((applyT ⟨S.q, S.s, S.m⟩ (ls.getD j op0).kind (ls.getD j op0).key (ls.getD j op0).val).1.m) _ (by omega) (by omega) (x_258 _ (hS.pick [12])) (x_259 _ (hS.pick [13]))) ?_)
                  rintro _ w ⟨rfl, c_420⟩
                  replace hS := hS.no c_420
                  have hb_421 : (risingB ((applyT ⟨S.q, S.s, S.m⟩ (ls.getD j op0).kind (ls.getD j op0).key (ls.getD j op0).val).1.s) && risingB (keysP ((applyT ⟨S.q, S.s, S.m⟩ (ls.getD j op0).kind (ls.getD j op0).key (ls.getD j op0).val).1.m))) = true := right_of (by assumption) (by assumption)
                  rw [hb_421]
                  refine ⟨.inl (hS.pick [4, 9, 10]), ?_⟩
                  refine K.DW.l 20 rfl (by kernel_rfl) (by kernel_rfl) (K.OW.q rfl (K.QR.k (v := .bool false) (by kernel_rfl)) ?_)
                  refine ⟨.inl (hS.pick [4, 9, 10]), ?_⟩
                  refine K.DW.l 21 rfl (by kernel_rfl) rfl (K.OW.q rfl (K.QR.k (v := .bool false) (by kernel_rfl)) ?_)
                  refine ⟨.inl (hS.pick [4, 9, 10]), ?_⟩
                  refine K.DW.done (by kernel_rfl) ?_
                  refine K.thn_normal ?_
                  refine K.KW.ifF rfl ?_
                  refine K.KW.skip ?_
                  refine K.thn_normal ?_
                  refine K.KW.seq ?_
                  -- 16 :61
                  refine K.KW.region ?_
                  refine K.RW.q rfl rfl (K.QR.ldN [.slice uq ((applyT ⟨S.q, S.s, S.m⟩ (ls.getD j op0).kind (ls.getD j op0).key (ls.getD j op0).val).1.q.length) ud, .slice us ((applyT ⟨S.q, S.s, S.m⟩ (ls.getD j op0).kind (ls.getD j op0).key (ls.getD j op0).val).1.s.length) ue, .slice um ((applyT ⟨S.q, S.s, S.m⟩ (ls.getD j op0).kind (ls.getD j op0).key (ls.getD j op0).val).1.m.length) uf] rfl rfl (by kernel_rfl) (by kernel_rfl) (K.cells (K.cl ((hS.blk 9 rfl x_255).cell rfl) (K.cl ((hS.blk 9 rfl x_255).cell rfl) (K.cl ((hS.blk 9 rfl x_255).cell rfl) K.cl0))))) ?_
                  refine K.RW.l rfl (K.OW.gst 8 [.slice uq ((applyT ⟨S.q, S.s, S.m⟩ (ls.getD j op0).kind (ls.getD j op0).key (ls.getD j op0).val).1.q.length) ud, .slice us ((applyT ⟨S.q, S.s, S.m⟩ (ls.getD j op0).kind (ls.getD j op0).key (ls.getD j op0).val).1.s.length) ue, .slice um ((applyT ⟨S.q, S.s, S.m⟩ (ls.getD j op0).kind (ls.getD j op0).key (ls.getD j op0).val).1.m.length) uf] [.slice uq ((applyT ⟨S.q, S.s, S.m⟩ (ls.getD j op0).kind (ls.getD j op0).key (ls.getD j op0).val).1.q.length) ud, .slice us ((applyT ⟨S.q, S.s, S.m⟩ (ls.getD j op0).kind (ls.getD j op0).key (ls.getD j op0).val).1.s.length) ue, .slice um ((applyT ⟨S.q, S.s, S.m⟩ (ls.getD j op0).kind (ls.getD j op0).key (ls.getD j op0).val).1.m.length) uf] hS x_101 ?_)
                  clear hS; intro w g_422 hg_423 hS
                  replace hS : K.Sat w0 [g_42, g1_31, g2_32, g3_33, gr_34, g_2, fr, yb, g_422, ub, ur, ug, uh, ui, vb, vr, vg, vh, vi] w := hS
                  refine K.RW.nil ?_
                  refine K.thn_normal ?_
                  -- 17 :62
                  refine K.KW.region ?_
                  refine K.RW.q rfl rfl (K.QR.ldN [.slice vq ((applyT ⟨S.q, S.s, S.m⟩ (ls.getD j op0).kind (ls.getD j op0).key (ls.getD j op0).val).1.q.length) vd, .slice vs ((applyT ⟨S.q, S.s, S.m⟩ (ls.getD j op0).kind (ls.getD j op0).key (ls.getD j op0).val).1.s.length) ve, .slice vm ((applyT ⟨S.q, S.s, S.m⟩ (ls.getD j op0).kind (ls.getD j op0).key (ls.getD j op0).val).1.m.length) vf] rfl rfl (by kernel_rfl) (by kernel_rfl) (K.cells (K.cl ((hS.blk 14 rfl x_409).cell rfl) (K.cl ((hS.blk 14 rfl x_409).cell rfl) (K.cl ((hS.blk 14 rfl x_409).cell rfl) K.cl0))))) ?_
                  refine K.RW.l rfl (K.OW.gst 7 [.slice vq ((applyT ⟨S.q, S.s, S.m⟩ (ls.getD j op0).kind (ls.getD j op0).key (ls.getD j op0).val).1.q.length) vd, .slice vs ((applyT ⟨S.q, S.s, S.m⟩ (ls.getD j op0).kind (ls.getD j op0).key (ls.getD j op0).val).1.s.length) ve, .slice vm ((applyT ⟨S.q, S.s, S.m⟩ (ls.getD j op0).kind (ls.getD j op0).key (ls.getD j op0).val).1.m.length) vf] [.slice vq ((applyT ⟨S.q, S.s, S.m⟩ (ls.getD j op0).kind (ls.getD j op0).key (ls.getD j op0).val).1.q.length) vd, .slice vs ((applyT ⟨S.q, S.s, S.m⟩ (ls.getD j op0).kind (ls.getD j op0).key (ls.getD j op0).val).1.s.length) ve, .slice vm ((applyT ⟨S.q, S.s, S.m⟩ (ls.getD j op0).kind (ls.getD j op0).key (ls.getD j op0).val).1.m.length) vf] hS x_97 ?_)
                  clear hS; intro w g_424 hg_425 hS
                  replace hS : K.Sat w0 [g_42, g1_31, g2_32, g3_33, gr_34, g_2, fr, g_424, g_422, ub, ur, ug, uh, ui, vb, vr, vg, vh, vi] w := hS
                  refine K.RW.nil ?_
                  refine K.blk_normal ?_
                  refine K.thn_normal ?_
                  -- 11 :55
                  refine K.KW.region ?_
                  refine K.RW.qs [.int .i64 ((j : Nat) : Int)] (by kernel_rfl) ?_
                  refine K.RW.q rfl rfl (K.QR.n64 ((((j : Nat) : Int) : Int) + (1 : Int)) ((j + 1 : Nat) : Int) (by kernel_rfl) (by omega)) ?_
                  refine K.RW.qs [.int .i64 ((j + 1 : Nat) : Int)] (by kernel_rfl) ?_
                  refine K.RW.nil ?_
                  refine K.thn_normal ?_
                  refine ⟨_, ?_, j + 1, (applyT ⟨S.q, S.s, S.m⟩ (ls.getD j op0).kind (ls.getD j op0).key (ls.getD j op0).val).1, vq, vd, vs, ve, vm, vf, uq, ud, us, ue, um, uf, g_424, vg, vh, vi, g_422, ug, uh, ui, rfl, ⟨by rfl, by rfl, by rfl, by rfl, by rfl, by rfl, by rfl, by rfl, trivial⟩, (by omega), (runT_next1 hrun (by omega)), (by omega), (by omega), (by omega), (by assumption), (by assumption), (by assumption), (by assumption), hg_425, x_411, x_412, x_413, hg_423, x_257, x_258, x_259, hS.pick [13, 12, 11, 18, 17, 16, 0, 1, 2, 3, 4, 5, 6, 7, 8]⟩
                  omega
            ·  -- no
              refine K.RW.q rfl rfl (K.QR.nice (v := .bool (decide ((((j : Nat) : Int) : Int) < (((ls.length : Nat) : Int) : Int)))) (by kernel_rfl) (congrArg Value.bool (decide_eq_false h_105))) ?_
              refine K.RW.nil ?_
              refine K.thn_normal ?_
              refine K.KW.ifF rfl ?_
              refine K.KW.exit ?_
              refine K.thn_exit ?_
              refine K.thn_exit ?_
              refine K.blk_hit ?_
              refine K.thn_normal ?_
              refine K.KW.seq ?_
              -- 18 :64
              have hend : (runT ⟨qa, sa, ma⟩ ls).1 = S := by rw [← hrun, List.take_of_length_le (by omega)]
              have hEq : (runT ⟨qa, sa, ma⟩ ls).1.q.length = S.q.length := by rw [hend]
              have hEs : (runT ⟨qa, sa, ma⟩ ls).1.s.length = S.s.length := by rw [hend]
              have hEm : (runT ⟨qa, sa, ma⟩ ls).1.m.length = S.m.length := by rw [hend]
              refine K.KW.gdrawn [6, 13] hS (by kernel_rfl) ?_
              clear hS; intro w hS
              refine K.DW.l 0 rfl (by kernel_rfl) rfl (K.OW.kcall hS [] (awake08_ok _) ?_)
              rintro _ w ⟨rfl, c_426⟩
              replace hS := hS.no c_426
              refine ⟨.inl (hS.pick [6, 13]), ?_⟩
              refine K.DW.l 1 rfl (by kernel_rfl) rfl (K.OW.q rfl (K.QR.k (v := .bool true) (by kernel_rfl)) ?_)
              refine ⟨.inl (hS.pick [6, 13]), ?_⟩
              refine K.DW.q 2 (by kernel_rfl) rfl rfl (by kernel_rfl) (by kernel_rfl) (fun w hS => K.QR.ldN [.slice a1_23 ((runT ⟨qa, sa, ma⟩ ls).1.q.length) c1_24, .slice a2_25 ((runT ⟨qa, sa, ma⟩ ls).1.s.length) c2_26, .slice a3_27 ((runT ⟨qa, sa, ma⟩ ls).1.m.length) c3_28] rfl rfl (by kernel_rfl) (by kernel_rfl) (K.cells (K.cl ((hS.blk 0 rfl hg_43).cell rfl) (K.cl ((hS.blk 0 rfl hg_43).cell rfl) (K.cl ((hS.blk 0 rfl hg_43).cell rfl) K.cl0))))) (hS.pick [6, 13]) ?_
              refine K.DW.l 3 rfl (by kernel_rfl) (by kernel_rfl) (K.OW.q rfl (K.QR.ldN [.slice yq S.q.length yd, .slice ys S.s.length ye, .slice ym S.m.length yf] rfl rfl (by kernel_rfl) (by kernel_rfl) (K.cells (K.cl ((hS.blk 13 rfl x_97).cell rfl) (K.cl ((hS.blk 13 rfl x_97).cell rfl) (K.cl ((hS.blk 13 rfl x_97).cell rfl) K.cl0))))) ?_)
              refine ⟨.inl (hS.pick [6, 13]), ?_⟩
              refine K.DW.l 4 rfl (by kernel_rfl) (by kernel_rfl) (K.OW.kcall hS [.agg #[.slice a1_23 ((runT ⟨qa, sa, ma⟩ ls).1.q.length) c1_24, .slice a2_25 ((runT ⟨qa, sa, ma⟩ ls).1.s.length) c2_26, .slice a3_27 ((runT ⟨qa, sa, ma⟩ ls).1.m.length) c3_28], .agg #[.slice yq S.q.length yd, .slice ys S.s.length ye, .slice ym S.m.length yf]] (lsame8_ok _ _ _ _ _ _ _ _ _ _ _ _ ((runT ⟨qa, sa, ma⟩ ls).1.q) ((runT ⟨qa, sa, ma⟩ ls).1.s) S.q S.s ((runT ⟨qa, sa, ma⟩ ls).1.m) S.m _ (by omega) (by omega) (by omega) (x1_35 _ (hS.pick [7])) (x2_36 _ (hS.pick [8])) (x3_37 _ (hS.pick [9])) (x_98 _ (hS.pick [5])) (x_99 _ (hS.pick [4])) (x_100 _ (hS.pick [3]))) ?_)
              rintro _ w ⟨rfl, c_427⟩
              replace hS := hS.no c_427
              have hb_428 : decide ((runT ⟨qa, sa, ma⟩ ls).1.q = S.q ∧ (runT ⟨qa, sa, ma⟩ ls).1.s = S.s ∧ (runT ⟨qa, sa, ma⟩ ls).1.m = S.m) = true := decide_eq_true ⟨by rw [hend], by rw [hend], by rw [hend]⟩
              rw [hb_428]
              refine ⟨.inl (hS.pick [6, 13]), ?_⟩
              refine K.DW.l 5 rfl (by kernel_rfl) rfl (K.OW.q rfl (K.QR.k (v := .bool true) (by kernel_rfl)) ?_)
              refine ⟨.inl (hS.pick [6, 13]), ?_⟩
              refine K.DW.l 6 rfl (by kernel_rfl) rfl (K.OW.q rfl (K.QR.k (v := .bool true) (by kernel_rfl)) ?_)
              refine ⟨.inl (hS.pick [6, 13]), ?_⟩
              refine K.DW.q 7 (by kernel_rfl) rfl rfl (by kernel_rfl) (by kernel_rfl) (fun w hS => K.QR.ldN [.slice a1_23 ((runT ⟨qa, sa, ma⟩ ls).1.q.length) c1_24, .slice a2_25 ((runT ⟨qa, sa, ma⟩ ls).1.s.length) c2_26, .slice a3_27 ((runT ⟨qa, sa, ma⟩ ls).1.m.length) c3_28] rfl rfl (by kernel_rfl) (by kernel_rfl) (K.cells (K.cl ((hS.blk 0 rfl hg_43).cell rfl) (K.cl ((hS.blk 0 rfl hg_43).cell rfl) (K.cl ((hS.blk 0 rfl hg_43).cell rfl) K.cl0))))) (hS.pick [6, 13]) ?_
              refine K.DW.q 9 (by kernel_rfl) rfl rfl (by kernel_rfl) (by kernel_rfl) (fun w hS => K.QR.k (v := .pointer (some ⟨b7, 0, none⟩)) (by kernel_rfl)) (hS.pick [6, 13]) ?_
              refine K.DW.q 10 (by kernel_rfl) rfl rfl (by kernel_rfl) (by kernel_rfl) (fun w hS => K.QR.ld1 (v := .slice yq S.q.length yd) rfl rfl (by kernel_rfl) ((hS.blk 1 rfl x_97).cell rfl)) (hS.pick [6, 13]) ?_
              refine K.DW.q 11 (by kernel_rfl) rfl rfl (by kernel_rfl) (by kernel_rfl) (fun w hS => K.QR.len (P := Try.prog) rfl rfl Try.underlying39) (hS.pick [6, 13]) ?_
              refine K.DW.q 12 (by kernel_rfl) rfl rfl (by kernel_rfl) (by kernel_rfl) (fun w hS => K.QR.n64 ((1 : Int) + (((S.q.length : Nat) : Int) : Int)) ((1 + S.q.length : Nat) : Int) (by kernel_rfl) (by omega)) (hS.pick [6, 13]) ?_
              refine K.DW.q 13 (by kernel_rfl) rfl rfl (by kernel_rfl) (by kernel_rfl) (fun w hS => K.QR.k (v := .pointer (some ⟨b7, 1, none⟩)) (by kernel_rfl)) (hS.pick [6, 13]) ?_
              refine K.DW.q 14 (by kernel_rfl) rfl rfl (by kernel_rfl) (by kernel_rfl) (fun w hS => K.QR.ld1 (v := .slice ys S.s.length ye) rfl rfl (by kernel_rfl) ((hS.blk 1 rfl x_97).cell rfl)) (hS.pick [6, 13]) ?_
              refine K.DW.q 15 (by kernel_rfl) rfl rfl (by kernel_rfl) (by kernel_rfl) (fun w hS => K.QR.len (P := Try.prog) rfl rfl Try.underlying39) (hS.pick [6, 13]) ?_
              refine K.DW.q 16 (by kernel_rfl) rfl rfl (by kernel_rfl) (by kernel_rfl) (fun w hS => K.QR.n64 ((((1 + S.q.length : Nat) : Int) : Int) + (((S.s.length : Nat) : Int) : Int)) ((1 + S.q.length + S.s.length : Nat) : Int) (by kernel_rfl) (by omega)) (hS.pick [6, 13]) ?_
              refine K.DW.q 17 (by kernel_rfl) rfl rfl (by kernel_rfl) (by kernel_rfl) (fun w hS => K.QR.k (v := .pointer (some ⟨b7, 2, none⟩)) (by kernel_rfl)) (hS.pick [6, 13]) ?_
              refine K.DW.q 18 (by kernel_rfl) rfl rfl (by kernel_rfl) (by kernel_rfl) (fun w hS => K.QR.ld1 (v := .slice ym S.m.length yf) rfl rfl (by kernel_rfl) ((hS.blk 1 rfl x_97).cell rfl)) (hS.pick [6, 13]) ?_
              refine K.DW.q 19 (by kernel_rfl) rfl rfl (by kernel_rfl) (by kernel_rfl) (fun w hS => K.QR.len (P := Try.prog) rfl rfl Try.underlying40) (hS.pick [6, 13]) ?_
              refine K.DW.q 20 (by kernel_rfl) rfl rfl (by kernel_rfl) (by kernel_rfl) (fun w hS => K.QR.n64 ((((1 + S.q.length + S.s.length : Nat) : Int) : Int) + (((S.m.length : Nat) : Int) : Int)) ((1 + S.q.length + S.s.length + S.m.length : Nat) : Int) (by kernel_rfl) (by omega)) (hS.pick [6, 13]) ?_
              refine K.DW.l 8 rfl (by kernel_rfl) (by kernel_rfl) (K.OW.kcall hS [.agg #[.slice a1_23 ((runT ⟨qa, sa, ma⟩ ls).1.q.length) c1_24, .slice a2_25 ((runT ⟨qa, sa, ma⟩ ls).1.s.length) c2_26, .slice a3_27 ((runT ⟨qa, sa, ma⟩ ls).1.m.length) c3_28]] (takes_ok _ _ _ _ _ _ _ _ _ _ (by omega)) ?_)
              rintro _ w ⟨rfl, c_429⟩
              replace hS := hS.no c_429
              refine ⟨.inl (hS.pick [6, 13]), ?_⟩
              refine K.DW.l 21 rfl (by kernel_rfl) (by kernel_rfl) (K.OW.q rfl (K.QR.nice (v := .bool ((((1 + (runT ⟨qa, sa, ma⟩ ls).1.q.length + (runT ⟨qa, sa, ma⟩ ls).1.s.length + (runT ⟨qa, sa, ma⟩ ls).1.m.length : Nat) : Int) : Int) == (((1 + S.q.length + S.s.length + S.m.length : Nat) : Int) : Int))) (by kernel_rfl) (congrArg Value.bool (beq_iff_eq.2 (by omega)))) ?_)
              refine ⟨.inl (hS.pick [6, 13]), ?_⟩
              refine K.DW.l 22 rfl (by kernel_rfl) rfl (K.OW.q rfl (K.QR.k (v := .bool true) (by kernel_rfl)) ?_)
              refine ⟨.inl (hS.pick [6, 13]), ?_⟩
              refine K.DW.l 23 rfl (by kernel_rfl) rfl (K.OW.q rfl (K.QR.k (v := .bool true) (by kernel_rfl)) ?_)
              refine ⟨.inl (hS.pick [6, 13]), ?_⟩
              refine K.DW.done (by kernel_rfl) ?_
              refine K.thn_normal ?_
              refine K.KW.ret ?_
              refine ⟨.inr rfl, rfl, (.bool true), K.res1 rfl rfl, [], ?_, hS.pick [12]⟩
              exact rfl

end Go.Proofs.Ytgeihjiichdpbaa
