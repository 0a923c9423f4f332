import Derived.Test.YtnehocjmgnhhhaaFaw2
/- The statement WitnessOrders. -/
namespace Go.Proofs.Ytnehocjmgnhhhaa
open Go.RowKit
set_option linter.unusedVariables false
attribute [local irreducible] K.KW K.RW K.DW K.OW K.QR K.KC
set_option maxHeartbeats 8000000 in
set_option maxRecDepth 100000 in
theorem lawwo_ok (w0 : World) (a b : Option Addr) (ca cb : Nat) (L : List CallM) (P : List Int) (hcb : P.length ≤ cb) (ha : K.RowE w0 a L.length 11 (fun i => cCall (L.getD i call0))) (hb : K.RowE w0 b P.length 1 (fun i => cI64 (P.getD i 0))) :
    K.GC Try.prog w0 3 #[.slice a L.length ca, .slice b P.length cb] [] (fun v post => v = .bool true) := by
  refine K.GC.mk (n := 51) Try.func3 rfl rfl [.slice a L.length ca, .slice b P.length cb] rfl rfl ?_
  intro fr w hS
  replace hS : K.Sat w0 [fr] w := hS
  refine K.KW.seq ?_
  -- 0 :31
  refine K.KW.region ?_
  refine K.RW.qs [.bool false] (by kernel_rfl) ?_
  refine K.RW.nil ?_
  refine K.thn_normal ?_
  refine K.KW.seq ?_
  refine K.KW.seq ?_
  -- 1 :32
  refine K.KW.region ?_
  refine K.RW.qs [.slice a L.length ca] (by kernel_rfl) ?_
  refine K.RW.q rfl rfl (K.QR.len (P := Try.prog) rfl rfl Try.underlying22) ?_
  by_cases h_1 : (((L.length : Nat) : Int) : Int) > (100 : Int)
  ·  -- yes
    refine K.RW.q rfl rfl (K.QR.nice (v := .bool (decide ((((L.length : Nat) : Int) : Int) > (100 : Int)))) (by kernel_rfl) (congrArg Value.bool (decide_eq_true h_1))) ?_
    refine K.RW.qs [.bool true] (by kernel_rfl) ?_
    refine K.RW.skip rfl (by kernel_rfl) ?_
    refine K.RW.skip rfl (by kernel_rfl) ?_
    refine K.RW.skip rfl (by kernel_rfl) ?_
    refine K.RW.qs [.bool true] (by kernel_rfl) ?_
    refine K.RW.nil ?_
    refine K.thn_normal ?_
    refine K.KW.ifT rfl ?_
    refine K.KW.seq ?_
    -- 2 :33
    refine K.KW.region ?_
    refine K.RW.l rfl (K.OW.gcall hS [] [0] [] (awake25_ok _) ?_)
    clear hS; rintro _ _ w ⟨rfl, rfl⟩ hS
    replace hS : K.Sat w0 [fr] w := hS
    refine K.RW.qs [.bool true] (by kernel_rfl) ?_
    refine K.RW.nil ?_
    refine K.thn_normal ?_
    refine K.KW.ret ?_
    refine K.thn_ret ?_
    refine ⟨.inr rfl, rfl, (.bool true), K.res1 rfl rfl, [], ?_, hS.pick [0]⟩
    exact rfl
  ·  -- no
    refine K.RW.q rfl rfl (K.QR.nice (v := .bool (decide ((((L.length : Nat) : Int) : Int) > (100 : Int)))) (by kernel_rfl) (congrArg Value.bool (decide_eq_false h_1))) ?_
    refine K.RW.qs [.bool false, .slice b P.length cb] (by kernel_rfl) ?_
    refine K.RW.q rfl (by kernel_rfl) (K.QR.len (P := Try.prog) rfl rfl Try.underlying23) ?_
    by_cases h_2 : (((P.length : Nat) : Int) : Int) > (100 : Int)
    ·  -- yes
      refine K.RW.q rfl (by kernel_rfl) (K.QR.nice (v := .bool (decide ((((P.length : Nat) : Int) : Int) > (100 : Int)))) (by kernel_rfl) (congrArg Value.bool (decide_eq_true h_2))) ?_
      refine K.RW.qs [.bool true] (by kernel_rfl) ?_
      refine K.RW.nil ?_
      refine K.thn_normal ?_
      refine K.KW.ifT rfl ?_
      refine K.KW.seq ?_
      -- 2 :33
      refine K.KW.region ?_
      refine K.RW.l rfl (K.OW.gcall hS [] [0] [] (awake25_ok _) ?_)
      clear hS; rintro _ _ w ⟨rfl, rfl⟩ hS
      replace hS : K.Sat w0 [fr] w := hS
      refine K.RW.qs [.bool true] (by kernel_rfl) ?_
      refine K.RW.nil ?_
      refine K.thn_normal ?_
      refine K.KW.ret ?_
      refine K.thn_ret ?_
      refine ⟨.inr rfl, rfl, (.bool true), K.res1 rfl rfl, [], ?_, hS.pick [0]⟩
      exact rfl
    ·  -- no
      refine K.RW.q rfl (by kernel_rfl) (K.QR.nice (v := .bool (decide ((((P.length : Nat) : Int) : Int) > (100 : Int)))) (by kernel_rfl) (congrArg Value.bool (decide_eq_false h_2))) ?_
      refine K.RW.qs [.bool false] (by kernel_rfl) ?_
      refine K.RW.nil ?_
      refine K.thn_normal ?_
      refine K.KW.ifF rfl ?_
      refine K.KW.skip ?_
      refine K.thn_normal ?_
      refine K.KW.seq ?_
      -- 3 :35
      refine K.KW.region ?_
      refine K.RW.qs [.slice a L.length ca] (by kernel_rfl) ?_
      refine K.RW.l rfl (K.OW.gcall hS [51] [0] [.slice a L.length ca] (order_ok _ _ _ L (by omega) _ (fun w h => ha.no h.chg)) ?_)
      clear hS; rintro _ _ w ⟨r_3, g_4, k_5, Q_6, rfl, rfl, o_7, ho_8, hl_9⟩ hS
      replace hS : K.Sat w0 [g_4, fr] w := hS.of (by simp [K.pick, K.nth])
      refine K.RW.qs [.slice a L.length ca] (by kernel_rfl) ?_
      refine K.RW.l rfl (K.OW.gcall hS [52] [0, 1] [.slice a L.length ca] (dorder_ok _ _ _ L (by omega) _ (fun w h => ha.no h.chg)) ?_)
      clear hS; rintro _ _ w ⟨r_10, g_11, k_12, Q_13, rfl, rfl, o_14, ho_15, hl_16⟩ hS
      replace hS : K.Sat w0 [g_11, g_4, fr] w := hS.of (by simp [K.pick, K.nth])
      refine K.RW.qs [.slice r_3 Q_6.length k_5, .slice r_10 Q_13.length k_12] (by kernel_rfl) ?_
      refine K.RW.nil ?_
      refine K.thn_normal ?_
      refine K.KW.seq ?_
      refine K.KW.seq ?_
      -- 4 :36
      have hQR := ho_8.uniq ho_15
      have hQl := congrArg List.length hQR
      refine K.KW.region ?_
      refine K.RW.qs [.slice r_3 Q_6.length k_5] (by kernel_rfl) ?_
      refine K.RW.q rfl rfl (K.QR.len (P := Try.prog) rfl rfl Try.underlying23) ?_
      refine K.RW.qs [.slice r_10 Q_13.length k_12] (by kernel_rfl) ?_
      refine K.RW.q rfl rfl (K.QR.len (P := Try.prog) rfl rfl Try.underlying23) ?_
      refine K.RW.q rfl rfl (K.QR.nice (v := .bool ((((Q_6.length : Nat) : Int) : Int) != (((Q_13.length : Nat) : Int) : Int))) (by kernel_rfl) (congrArg Value.bool (bne_eq_false_iff_eq.2 (by rw [hQR])))) ?_
      refine K.RW.nil ?_
      refine K.thn_normal ?_
      refine K.KW.ifF rfl ?_
      refine K.KW.skip ?_
      refine K.thn_normal ?_
      refine K.KW.seq ?_
      refine K.KW.seq ?_
      -- 6 :39
      refine K.KW.region ?_
      refine K.RW.qs [.int .i64 0] (by kernel_rfl) ?_
      refine K.RW.nil ?_
      refine K.thn_normal ?_
      refine K.KW.block ?_
      refine K.KW.loop (fun m_ F_ w_ => ∃ (i : Nat), m_ = 1000000 - i ∧ K.Sl F_ [(0, .slice a L.length ca), (1, .slice b P.length cb), (5, .slice r_3 Q_6.length k_5), (6, .slice r_10 Q_13.length k_12), (7, .int .i64 ((i : Nat) : Int)), (51, undef)] ∧ K.Sat w0 [g_11, g_4, fr] w_) ((fun (i : Nat) => 1000000 - i) 0) ?_ ?_
      · -- begins
        exact ⟨0, rfl, ⟨by rfl, by rfl, by rfl, by rfl, by rfl, by rfl, trivial⟩, hS.pick [0, 1, 2]⟩
      · -- a round
        clear hS
        intro m_17 F_18 w hI
        obtain ⟨i, rfl, sl_19, hS⟩ := hI
        rw [← K.Sl.puts sl_19]; clear sl_19
        refine K.KW.seq ?_
        refine K.KW.seq ?_
        -- 7 :39
        refine K.KW.region ?_
        refine K.RW.qs [.int .i64 ((i : Nat) : Int), .slice r_3 Q_6.length k_5] (by kernel_rfl) ?_
        refine K.RW.q rfl rfl (K.QR.len (P := Try.prog) rfl rfl Try.underlying23) ?_
        by_cases h_20 : (((i : Nat) : Int) : Int) < (((Q_6.length : Nat) : Int) : Int)
        ·  -- yes
          refine K.RW.q rfl rfl (K.QR.nice (v := .bool (decide ((((i : Nat) : Int) : Int) < (((Q_6.length : Nat) : Int) : Int)))) (by kernel_rfl) (congrArg Value.bool (decide_eq_true h_20))) ?_
          refine K.RW.nil ?_
          refine K.thn_normal ?_
          refine K.KW.ifT rfl ?_
          refine K.KW.skip ?_
          refine K.thn_normal ?_
          refine K.KW.seq ?_
          refine K.KW.block ?_
          refine K.KW.seq ?_
          -- 9 :40
          obtain ⟨b_21, rfl⟩ := o_7.some_ (by have := o_7.le; omega)
          obtain ⟨b_23, rfl⟩ := o_14.some_ (by have := o_14.le; omega)
          refine K.KW.gdrawn [1] hS (by kernel_rfl) ?_
          clear hS; intro w hS
          refine K.DW.q 0 (by kernel_rfl) rfl rfl (by kernel_rfl) rfl (fun w hS => K.QR.k (v := .slice (some ⟨b_21, 0, none⟩) Q_6.length k_5) (by kernel_rfl)) (hS.pick [1]) ?_
          refine K.DW.q 1 (by kernel_rfl) rfl rfl (by kernel_rfl) rfl (fun w hS => K.QR.k (v := .int .i64 ((i : Nat) : Int)) (by kernel_rfl)) (hS.pick [1]) ?_
          refine K.DW.q 2 (by kernel_rfl) rfl rfl (by kernel_rfl) rfl (fun w hS => K.QR.ix i 1 rfl rfl rfl Try.underlying23 (by kernel_rfl) (by omega) (by first | (simp; done) | omega | (simp; omega))) (hS.pick [1]) ?_
          refine K.DW.q 3 (by kernel_rfl) rfl rfl (by kernel_rfl) rfl (fun w hS => K.QR.ld1 (v := .int .i64 (Q_6.getD i 0)) rfl rfl (by kernel_rfl) (K.Own.atS (c := cI64) (d := 0) (fun _ => rfl) (hS.ownr 0 rfl o_7) rfl i (by omega))) (hS.pick [1]) ?_
          refine K.DW.q 4 (by kernel_rfl) rfl rfl (by kernel_rfl) rfl (fun w hS => K.QR.k (v := .slice (some ⟨b_23, 0, none⟩) Q_13.length k_12) (by kernel_rfl)) (hS.pick [1]) ?_
          refine K.DW.l 5 rfl (by kernel_rfl) rfl (K.OW.q rfl (K.QR.k (v := .int .i64 ((i : Nat) : Int)) (by kernel_rfl)) ?_)
          refine ⟨.inl (hS.pick [1]), ?_⟩
          refine K.DW.l 6 rfl (by kernel_rfl) rfl (K.OW.q rfl (K.QR.ix i 1 rfl rfl rfl Try.underlying23 (by kernel_rfl) (by omega) (by first | (simp; done) | omega | (simp; omega))) ?_)
          refine ⟨.inl (hS.pick [1]), ?_⟩
          refine K.DW.l 7 rfl (by kernel_rfl) rfl (K.OW.q rfl (K.QR.ld1 (v := .int .i64 (Q_13.getD i 0)) rfl rfl (by kernel_rfl) (K.Own.atS (c := cI64) (d := 0) (fun _ => rfl) (hS.ownr 0 rfl o_14) rfl i (by omega))) ?_)
          refine ⟨.inl (hS.pick [1]), ?_⟩
          refine K.DW.l 8 rfl (by kernel_rfl) rfl (K.OW.q rfl (K.QR.nice (v := .bool ((Q_6.getD i 0 : Int) != (Q_13.getD i 0 : Int))) (by kernel_rfl) (congrArg Value.bool (bne_eq_false_iff_eq.2 (by rw [hQR])))) ?_)
          refine ⟨.inl (hS.pick [1]), ?_⟩
          refine K.DW.done (by kernel_rfl) ?_
          refine K.thn_normal ?_
          refine K.KW.ifF rfl ?_
          refine K.KW.skip ?_
          refine K.blk_normal ?_
          refine K.thn_normal ?_
          -- 8 :39
          refine K.KW.region ?_
          refine K.RW.qs [.int .i64 ((i : Nat) : Int)] (by kernel_rfl) ?_
          refine K.RW.q rfl rfl (K.QR.n64 ((((i : Nat) : Int) : Int) + (1 : Int)) ((i + 1 : Nat) : Int) (by kernel_rfl) (by omega)) ?_
          refine K.RW.qs [.int .i64 ((i + 1 : Nat) : Int)] (by kernel_rfl) ?_
          refine K.RW.nil ?_
          refine K.thn_normal ?_
          refine ⟨_, ?_, i + 1, rfl, ⟨by rfl, by rfl, by rfl, by rfl, by rfl, by rfl, trivial⟩, hS.pick [0, 1, 2]⟩
          omega
        ·  -- no
          refine K.RW.q rfl rfl (K.QR.nice (v := .bool (decide ((((i : Nat) : Int) : Int) < (((Q_6.length : Nat) : Int) : Int)))) (by kernel_rfl) (congrArg Value.bool (decide_eq_false h_20))) ?_
          refine K.RW.nil ?_
          refine K.thn_normal ?_
          refine K.KW.ifF rfl ?_
          refine K.KW.exit ?_
          refine K.thn_exit ?_
          refine K.thn_exit ?_
          refine K.blk_hit ?_
          refine K.thn_normal ?_
          refine K.KW.seq ?_
          -- 11 :44
          refine K.KW.region ?_
          refine K.RW.l rfl (K.OW.gcall hS [] [0, 1, 2] [] (awake25_ok _) ?_)
          clear hS; rintro _ _ w ⟨rfl, rfl⟩ hS
          replace hS : K.Sat w0 [g_11, g_4, fr] w := hS
          refine K.RW.qs [.bool true, .slice a L.length ca, .slice b P.length cb] (by kernel_rfl) ?_
          refine K.RW.l (by kernel_rfl) (K.OW.gcall hS [53, 54] [0, 1, 2] [.slice a L.length ca, .slice b P.length cb] (rsp_ok _ _ _ _ _ L P (by omega) (by omega) _ (fun w h => ha.no h.chg) _ (fun w h => hb.no h.chg) (by omega)) ?_)
          clear hS; rintro _ _ w ⟨rfl, (⟨h_25, rfl⟩ | ⟨h_26, rfl⟩)⟩ hS
          ·
            replace hS : K.Sat w0 [g_11, g_4, fr] w := hS.of (by simp [K.pick, K.nth])
            refine K.RW.qs [.slice a L.length ca, .slice b P.length cb] (by kernel_rfl) ?_
            refine K.RW.l (by kernel_rfl) (K.OW.gcall hS [53, 54] [0, 1, 2] [.slice a L.length ca, .slice b P.length cb] (drsp_ok _ _ _ _ _ L P (by omega) (by omega) _ (fun w h => ha.no h.chg) _ (fun w h => hb.no h.chg) (by omega)) ?_)
            clear hS; rintro _ _ w ⟨rfl, (⟨h_27, rfl⟩ | ⟨h_28, rfl⟩)⟩ hS
            ·
              replace hS : K.Sat w0 [g_11, g_4, fr] w := hS.of (by simp [K.pick, K.nth])
              refine K.RW.qs [.bool true, .bool true, .bool true] (by kernel_rfl) ?_
              refine K.RW.nil ?_
              refine K.thn_normal ?_
              refine K.KW.ret ?_
              refine ⟨.inr rfl, rfl, (.bool true), K.res1 rfl rfl, [], ?_, hS.pick [2]⟩
              exact rfl
            ·
              exact absurd h_25 h_28
          ·
            replace hS : K.Sat w0 [g_11, g_4, fr] w := hS.of (by simp [K.pick, K.nth])
            refine K.RW.qs [.slice a L.length ca, .slice b P.length cb] (by kernel_rfl) ?_
            refine K.RW.l (by kernel_rfl) (K.OW.gcall hS [53, 54] [0, 1, 2] [.slice a L.length ca, .slice b P.length cb] (drsp_ok _ _ _ _ _ L P (by omega) (by omega) _ (fun w h => ha.no h.chg) _ (fun w h => hb.no h.chg) (by omega)) ?_)
            clear hS; rintro _ _ w ⟨rfl, (⟨h_29, rfl⟩ | ⟨h_30, rfl⟩)⟩ hS
            ·
              exact absurd h_29 h_26
            ·
              replace hS : K.Sat w0 [g_11, g_4, fr] w := hS.of (by simp [K.pick, K.nth])
              refine K.RW.qs [.bool true, .bool true, .bool true] (by kernel_rfl) ?_
              refine K.RW.nil ?_
              refine K.thn_normal ?_
              refine K.KW.ret ?_
              refine ⟨.inr rfl, rfl, (.bool true), K.res1 rfl rfl, [], ?_, hS.pick [2]⟩
              exact rfl
end Go.Proofs.Ytnehocjmgnhhhaa
