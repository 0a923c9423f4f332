import Derived.Test.YtnehocjmgnhhhaaDoorFaw28
/- The statement ScriptWrites. -/
namespace Go.Proofs.YtnehocjmgnhhhaaDoor
open Go.RowKit
set_option linter.unusedVariables false
attribute [local irreducible] K.KW K.RW K.DW K.OW K.QR K.KC
set_option maxHeartbeats 8000000 in
set_option maxRecDepth 100000 in
theorem lawsw_ok (w0 : World) (a : Option Addr) (cap : Nat) (L : List ActM) (hc : L.length ≤ cap) (haf : allAf L) (hx : K.RowE w0 a L.length 6 (fun i => cAct (L.getD i act0))) :
    K.GC Tryd.prog w0 7 #[.slice a L.length cap] [] (fun v post => v = .bool true) := by
  refine K.GC.mk (n := 77) Tryd.func7 rfl rfl [.slice a L.length cap] rfl rfl ?_
  intro fr w hS
  replace hS : K.Sat w0 [fr] w := hS
  refine K.KW.seq ?_
  -- 0 :51
  refine K.KW.region ?_
  refine K.RW.qs [.bool false] (by kernel_rfl) ?_
  refine K.RW.nil ?_
  refine K.thn_normal ?_
  refine K.KW.seq ?_
  refine K.KW.seq ?_
  -- 1 :52
  refine K.KW.region ?_
  refine K.RW.qs [.slice a L.length cap] (by kernel_rfl) ?_
  refine K.RW.q rfl rfl (K.QR.len (P := Tryd.prog) rfl rfl Tryd.underlying54) ?_
  by_cases h_1 : (((L.length : Nat) : Int) : Int) > (300 : Int)
  ·  -- yes
    refine K.RW.q rfl rfl (K.QR.nice (v := .bool (decide ((((L.length : Nat) : Int) : Int) > (300 : Int)))) (by kernel_rfl) (congrArg Value.bool (decide_eq_true h_1))) ?_
    refine K.RW.nil ?_
    refine K.thn_normal ?_
    refine K.KW.ifT rfl ?_
    refine K.KW.seq ?_
    -- 2 :53
    refine K.KW.region ?_
    refine K.RW.l rfl (K.OW.gcall hS [] [0] [] (awake28_ok _) ?_)
    clear hS; rintro _ _ w ⟨rfl, rfl⟩ hS
    replace hS : K.Sat w0 [fr] w := hS
    refine K.RW.qs [.bool true] (by kernel_rfl) ?_
    refine K.RW.nil ?_
    refine K.thn_normal ?_
    refine K.KW.ret ?_
    refine K.thn_ret ?_
    refine ⟨.inr rfl, rfl, (.bool true), K.res1 rfl rfl, [], ?_, hS.pick [0]⟩
    exact rfl
  ·  -- no
    refine K.RW.q rfl rfl (K.QR.nice (v := .bool (decide ((((L.length : Nat) : Int) : Int) > (300 : Int)))) (by kernel_rfl) (congrArg Value.bool (decide_eq_false h_1))) ?_
    refine K.RW.nil ?_
    refine K.thn_normal ?_
    refine K.KW.ifF rfl ?_
    refine K.KW.skip ?_
    refine K.thn_normal ?_
    refine K.KW.seq ?_
    refine K.KW.seq ?_
    -- 3 :55
    refine K.KW.region ?_
    refine K.RW.qs [.int .i64 0] (by kernel_rfl) ?_
    refine K.RW.nil ?_
    refine K.thn_normal ?_
    refine K.KW.block ?_
    refine K.KW.loop (fun m_ F_ w_ => ∃ (i : Nat), m_ = L.length - i ∧ K.Sl F_ [(0, .slice a L.length cap), (3, .int .i64 ((i : Nat) : Int)), (77, undef)] ∧ i ≤ L.length ∧ K.Sat w0 [fr] w_) ((fun (i : Nat) => L.length - i) 0) ?_ ?_
    · -- begins
      exact ⟨0, rfl, ⟨by rfl, by rfl, by rfl, trivial⟩, (by omega), hS.pick [0]⟩
    · -- a round
      clear hS
      intro m_2 F_3 w hI
      obtain ⟨i, rfl, sl_4, p_5, hS⟩ := hI
      rw [← K.Sl.puts sl_4]; clear sl_4
      refine K.KW.seq ?_
      refine K.KW.seq ?_
      -- 4 :55
      refine K.KW.region ?_
      refine K.RW.qs [.int .i64 ((i : Nat) : Int), .slice a L.length cap] (by kernel_rfl) ?_
      refine K.RW.q rfl rfl (K.QR.len (P := Tryd.prog) rfl rfl Tryd.underlying54) ?_
      by_cases h_6 : (((i : Nat) : Int) : Int) < (((L.length : Nat) : Int) : Int)
      ·  -- yes
        refine K.RW.q rfl rfl (K.QR.nice (v := .bool (decide ((((i : Nat) : Int) : Int) < (((L.length : Nat) : Int) : Int)))) (by kernel_rfl) (congrArg Value.bool (decide_eq_true h_6))) ?_
        refine K.RW.nil ?_
        refine K.thn_normal ?_
        refine K.KW.ifT rfl ?_
        refine K.KW.skip ?_
        refine K.thn_normal ?_
        refine K.KW.seq ?_
        refine K.KW.block ?_
        refine K.KW.seq ?_
        -- 6 :56
        obtain ⟨b_7, of_8, rfl, _⟩ := hx.at_ (by omega)
        refine K.KW.gdrawn [] hS (by kernel_rfl) ?_
        clear hS; intro w hS
        refine K.DW.q 0 (by kernel_rfl) rfl rfl (by kernel_rfl) rfl (fun w hS => K.QR.k (v := .slice (some ⟨b_7, of_8, none⟩) L.length cap) (by kernel_rfl)) (hS.pick []) ?_
        refine K.DW.q 1 (by kernel_rfl) rfl rfl (by kernel_rfl) rfl (fun w hS => K.QR.k (v := .int .i64 ((i : Nat) : Int)) (by kernel_rfl)) (hS.pick []) ?_
        refine K.DW.q 2 (by kernel_rfl) rfl rfl (by kernel_rfl) rfl (fun w hS => K.QR.ix (of_8 + i * 6) 6 rfl rfl rfl Tryd.underlying54 (by kernel_rfl) (by omega) (by first | (simp; done) | omega | (simp; omega))) (hS.pick []) ?_
        refine K.DW.q 3 (by kernel_rfl) rfl rfl (by kernel_rfl) rfl (fun w hS => K.QR.ldN [.int .i64 ((L.getD i act0).k), .int .i64 ((L.getD i act0).th), .int .i64 ((L.getD i act0).ln), .int .i64 ((L.getD i act0).ok), .int .u32 ((L.getD i act0).key), .int .u32 ((L.getD i act0).val)] rfl rfl (by kernel_rfl) (by kernel_rfl) (K.cells (K.cl ((hx.no hS.chg).ld i (by omega) 0 _ rfl) (K.cl ((hx.no hS.chg).ld i (by omega) 1 _ rfl) (K.cl ((hx.no hS.chg).ld i (by omega) 2 _ rfl) (K.cl ((hx.no hS.chg).ld i (by omega) 3 _ rfl) (K.cl ((hx.no hS.chg).ld i (by omega) 4 _ rfl) (K.cl ((hx.no hS.chg).ld i (by omega) 5 _ rfl) K.cl0)))))))) (hS.pick []) ?_
        refine K.DW.q 5 (by kernel_rfl) rfl rfl (by kernel_rfl) rfl (fun w hS => K.QR.k (v := .slice (some ⟨b_7, of_8, none⟩) L.length cap) (by kernel_rfl)) (hS.pick []) ?_
        refine K.DW.q 6 (by kernel_rfl) rfl rfl (by kernel_rfl) rfl (fun w hS => K.QR.k (v := .int .i64 ((i : Nat) : Int)) (by kernel_rfl)) (hS.pick []) ?_
        refine K.DW.q 7 (by kernel_rfl) rfl rfl (by kernel_rfl) rfl (fun w hS => K.QR.ix (of_8 + i * 6) 6 rfl rfl rfl Tryd.underlying54 (by kernel_rfl) (by omega) (by first | (simp; done) | omega | (simp; omega))) (hS.pick []) ?_
        refine K.DW.q 8 (by kernel_rfl) rfl rfl (by kernel_rfl) rfl (fun w hS => K.QR.ldN [.int .i64 ((L.getD i act0).k), .int .i64 ((L.getD i act0).th), .int .i64 ((L.getD i act0).ln), .int .i64 ((L.getD i act0).ok), .int .u32 ((L.getD i act0).key), .int .u32 ((L.getD i act0).val)] rfl rfl (by kernel_rfl) (by kernel_rfl) (K.cells (K.cl ((hx.no hS.chg).ld i (by omega) 0 _ rfl) (K.cl ((hx.no hS.chg).ld i (by omega) 1 _ rfl) (K.cl ((hx.no hS.chg).ld i (by omega) 2 _ rfl) (K.cl ((hx.no hS.chg).ld i (by omega) 3 _ rfl) (K.cl ((hx.no hS.chg).ld i (by omega) 4 _ rfl) (K.cl ((hx.no hS.chg).ld i (by omega) 5 _ rfl) K.cl0)))))))) (hS.pick []) ?_
        refine K.DW.l 4 rfl (by kernel_rfl) rfl (K.OW.gcall hS [] [0] [.agg #[.int .i64 ((L.getD i act0).k), .int .i64 ((L.getD i act0).th), .int .i64 ((L.getD i act0).ln), .int .i64 ((L.getD i act0).ok), .int .u32 ((L.getD i act0).key), .int .u32 ((L.getD i act0).val)]] (sright_ok _ (L.getD i act0)) ?_)
        clear hS; rintro _ _ w ⟨rfl, (⟨h_9, rfl⟩ | ⟨h_10, rfl⟩)⟩ hS
        ·
          replace hS : K.Sat w0 [fr] w := hS
          refine ⟨.inl (hS.pick []), ?_⟩
          refine K.DW.l 9 rfl (by kernel_rfl) rfl (K.OW.gcall hS [] [0] [.agg #[.int .i64 ((L.getD i act0).k), .int .i64 ((L.getD i act0).th), .int .i64 ((L.getD i act0).ln), .int .i64 ((L.getD i act0).ok), .int .u32 ((L.getD i act0).key), .int .u32 ((L.getD i act0).val)]] (dright_ok _ (L.getD i act0)) ?_)
          clear hS; rintro _ _ w ⟨rfl, (⟨h_11, rfl⟩ | ⟨h_12, rfl⟩)⟩ hS
          ·
            replace hS : K.Sat w0 [fr] w := hS
            refine ⟨.inl (hS.pick []), ?_⟩
            refine K.DW.l 10 rfl (by kernel_rfl) rfl (K.OW.q rfl (K.QR.k (v := .bool false) (by kernel_rfl)) ?_)
            refine ⟨.inl (hS.pick []), ?_⟩
            refine K.DW.done (by kernel_rfl) ?_
            refine K.thn_normal ?_
            refine K.KW.ifF rfl ?_
            refine K.KW.skip ?_
            refine K.blk_normal ?_
            refine K.thn_normal ?_
            -- 5 :55
            refine K.KW.region ?_
            refine K.RW.qs [.int .i64 ((i : Nat) : Int)] (by kernel_rfl) ?_
            refine K.RW.q rfl rfl (K.QR.n64 ((((i : Nat) : Int) : Int) + (1 : Int)) ((i + 1 : Nat) : Int) (by kernel_rfl) (by omega)) ?_
            refine K.RW.qs [.int .i64 ((i + 1 : Nat) : Int)] (by kernel_rfl) ?_
            refine K.RW.nil ?_
            refine K.thn_normal ?_
            refine ⟨_, ?_, i + 1, rfl, ⟨by rfl, by rfl, by rfl, trivial⟩, (by omega), hS.pick [0]⟩
            omega
          ·
            exact absurd h_9 h_12
        ·
          replace hS : K.Sat w0 [fr] w := hS
          refine ⟨.inl (hS.pick []), ?_⟩
          refine K.DW.l 9 rfl (by kernel_rfl) rfl (K.OW.gcall hS [] [0] [.agg #[.int .i64 ((L.getD i act0).k), .int .i64 ((L.getD i act0).th), .int .i64 ((L.getD i act0).ln), .int .i64 ((L.getD i act0).ok), .int .u32 ((L.getD i act0).key), .int .u32 ((L.getD i act0).val)]] (dright_ok _ (L.getD i act0)) ?_)
          clear hS; rintro _ _ w ⟨rfl, (⟨h_13, rfl⟩ | ⟨h_14, rfl⟩)⟩ hS
          ·
            exact absurd h_13 h_10
          ·
            replace hS : K.Sat w0 [fr] w := hS
            refine ⟨.inl (hS.pick []), ?_⟩
            refine K.DW.l 10 rfl (by kernel_rfl) rfl (K.OW.q rfl (K.QR.k (v := .bool false) (by kernel_rfl)) ?_)
            refine ⟨.inl (hS.pick []), ?_⟩
            refine K.DW.done (by kernel_rfl) ?_
            refine K.thn_normal ?_
            refine K.KW.ifF rfl ?_
            refine K.KW.skip ?_
            refine K.blk_normal ?_
            refine K.thn_normal ?_
            -- 5 :55
            refine K.KW.region ?_
            refine K.RW.qs [.int .i64 ((i : Nat) : Int)] (by kernel_rfl) ?_
            refine K.RW.q rfl rfl (K.QR.n64 ((((i : Nat) : Int) : Int) + (1 : Int)) ((i + 1 : Nat) : Int) (by kernel_rfl) (by omega)) ?_
            refine K.RW.qs [.int .i64 ((i + 1 : Nat) : Int)] (by kernel_rfl) ?_
            refine K.RW.nil ?_
            refine K.thn_normal ?_
            refine ⟨_, ?_, i + 1, rfl, ⟨by rfl, by rfl, by rfl, trivial⟩, (by omega), hS.pick [0]⟩
            omega
      ·  -- no
        refine K.RW.q rfl rfl (K.QR.nice (v := .bool (decide ((((i : Nat) : Int) : Int) < (((L.length : Nat) : Int) : Int)))) (by kernel_rfl) (congrArg Value.bool (decide_eq_false h_6))) ?_
        refine K.RW.nil ?_
        refine K.thn_normal ?_
        refine K.KW.ifF rfl ?_
        refine K.KW.exit ?_
        refine K.thn_exit ?_
        refine K.thn_exit ?_
        refine K.blk_hit ?_
        refine K.thn_normal ?_
        refine K.KW.seq ?_
        -- 8 :60
        refine K.KW.region ?_
        refine K.RW.qs [.slice a L.length cap] (by kernel_rfl) ?_
        refine K.RW.l rfl (K.OW.gcall hS [51] [0] [.slice a L.length cap] (swr_ok _ _ _ L (by omega) hc haf _ (fun w h => hx.no h.chg)) ?_)
        clear hS; rintro _ _ w ⟨rfl, (⟨h_15, rfl⟩ | ⟨h_16, h2_17, rfl⟩ | ⟨h_18, h2_19, h3_20, rfl⟩)⟩ hS
        ·
          replace hS : K.Sat w0 [fr] w := hS.of (by simp [K.pick, K.nth])
          refine K.RW.qs [.tuple #[.string (K.sb []), .int .i64 1], .string (K.sb []), .int .i64 1, .string (K.sb []), .int .i64 1] (by kernel_rfl) ?_
          refine K.RW.nil ?_
          refine K.thn_normal ?_
          refine K.KW.seq ?_
          refine K.KW.seq ?_
          -- 9 :61
          refine K.KW.region ?_
          refine K.RW.qs [.slice a L.length cap] (by kernel_rfl) ?_
          refine K.RW.l rfl (K.OW.gcall hS [51] [0] [.slice a L.length cap] (lright_ok _ _ _ L (by omega) _ (fun w h => hx.no h.chg)) ?_)
          clear hS; rintro _ _ w ⟨rfl, (⟨h_21, rfl⟩ | ⟨h_22, rfl⟩)⟩ hS
          ·
            exact absurd h_21 h_15
          ·
            replace hS : K.Sat w0 [fr] w := hS.of (by simp [K.pick, K.nth])
            refine K.RW.qs [.bool true] (by kernel_rfl) ?_
            refine K.RW.nil ?_
            refine K.thn_normal ?_
            refine K.KW.ifT rfl ?_
            refine K.KW.seq ?_
            -- 10 :62
            refine K.KW.region ?_
            refine K.RW.l rfl (K.OW.gcall hS [] [0] [] (awake28_ok _) ?_)
            clear hS; rintro _ _ w ⟨rfl, rfl⟩ hS
            replace hS : K.Sat w0 [fr] w := hS
            refine K.RW.qs [.bool true, .int .i64 1, .bool true, .bool true, .bool true, .string (K.sb [])] (by kernel_rfl) ?_
            refine K.RW.q rfl (by kernel_rfl) (K.QR.sEq (xs := []) (ys := []) true rfl rfl rfl (K.deq_t (by decide))) ?_
            refine K.RW.qs [.bool true, .bool true] (by kernel_rfl) ?_
            refine K.RW.nil ?_
            refine K.thn_normal ?_
            refine K.KW.ret ?_
            refine K.thn_ret ?_
            refine ⟨.inr rfl, rfl, (.bool true), K.res1 rfl rfl, [], ?_, hS.pick [0]⟩
            exact rfl
        ·
          have hwl := wrM_len h_16 haf
          exfalso
          rcases h2_17 with h | h <;> omega
        ·
          replace hS : K.Sat w0 [fr] w := hS.of (by simp [K.pick, K.nth])
          refine K.RW.qs [.tuple #[.string (K.sb (wrM L)), .int .i64 0], .string (K.sb (wrM L)), .int .i64 0, .string (K.sb (wrM L)), .int .i64 0] (by kernel_rfl) ?_
          refine K.RW.nil ?_
          refine K.thn_normal ?_
          refine K.KW.seq ?_
          refine K.KW.seq ?_
          -- 9 :61
          refine K.KW.region ?_
          refine K.RW.qs [.slice a L.length cap] (by kernel_rfl) ?_
          refine K.RW.l rfl (K.OW.gcall hS [51] [0] [.slice a L.length cap] (lright_ok _ _ _ L (by omega) _ (fun w h => hx.no h.chg)) ?_)
          clear hS; rintro _ _ w ⟨rfl, (⟨h_23, rfl⟩ | ⟨h_24, rfl⟩)⟩ hS
          ·
            replace hS : K.Sat w0 [fr] w := hS.of (by simp [K.pick, K.nth])
            refine K.RW.qs [.bool false] (by kernel_rfl) ?_
            refine K.RW.nil ?_
            refine K.thn_normal ?_
            refine K.KW.ifF rfl ?_
            refine K.KW.skip ?_
            refine K.thn_normal ?_
            refine K.KW.seq ?_
            -- 11 :64
            have hall : allRt L := h_18
            refine K.KW.region ?_
            refine K.RW.qs [.string (K.sb (wrM L))] (by kernel_rfl) ?_
            refine K.RW.l rfl (K.OW.gcall hS [] [0] [.string (K.sb (wrM L))] (rdWr_ok _ L hall haf (by omega)) ?_)
            clear hS; rintro _ _ w ⟨r_25, g_26, k_27, rfl, rfl, o_28⟩ hS
            replace hS : K.Sat w0 [g_26, fr] w := hS
            refine K.RW.qs [.tuple #[.slice r_25 L.length k_27, .int .i64 0, .int .i64 0], .slice r_25 L.length k_27, .int .i64 0, .int .i64 0, .slice r_25 L.length k_27, .int .i64 0, .int .i64 0] (by kernel_rfl) ?_
            refine K.RW.nil ?_
            refine K.thn_normal ?_
            refine K.KW.seq ?_
            -- 12 :65
            refine K.KW.region ?_
            refine K.RW.l rfl (K.OW.gcall hS [] [0, 1] [] (awake28_ok _) ?_)
            clear hS; rintro _ _ w ⟨rfl, rfl⟩ hS
            replace hS : K.Sat w0 [g_26, fr] w := hS
            refine K.RW.qs [.bool true, .int .i64 0, .bool true, .bool true, .bool true, .string (K.sb (wrM L)), .slice a L.length cap] (by kernel_rfl) ?_
            refine K.RW.l (by kernel_rfl) (K.OW.gcall hS [52] [0, 1] [.slice a L.length cap] (dwr_ok _ _ _ L (by omega) haf hall _ (fun w h => hx.no h.chg)) ?_)
            clear hS; rintro _ _ w ⟨rfl, rfl⟩ hS
            replace hS : K.Sat w0 [g_26, fr] w := hS.of (by simp [K.pick, K.nth])
            refine K.RW.q rfl (by kernel_rfl) (K.QR.sEq (xs := (wrM L)) (ys := (wrM L)) true rfl rfl rfl (K.deq_t (rfl))) ?_
            refine K.RW.qs [.bool true, .bool true, .int .i64 0, .bool true, .bool true, .bool true, .int .i64 0, .bool true, .bool true, .bool true, .slice r_25 L.length k_27, .slice a L.length cap] (by kernel_rfl) ?_
            refine K.RW.l (by kernel_rfl) (K.OW.gcall hS [0, 52] [1] [.slice r_25 L.length k_27, .slice a L.length cap] (lsame_ok _ _ _ _ _ L L (by omega) (by omega) _ (fun w h => K.RowE.len (K.Own.rowE act0 (h.ownr 0 rfl o_28) rfl (fun _ => rfl)) rfl) _ (fun w h => hx.no h.chg)) ?_)
            clear hS; rintro _ _ w ⟨rfl, (⟨h_29, rfl⟩ | ⟨h_30, rfl⟩)⟩ hS
            ·
              replace hS : K.Sat w0 [g_26, fr] w := hS.of (by simp [K.pick, K.nth])
              refine K.RW.qs [.bool true, .bool true] (by kernel_rfl) ?_
              refine K.RW.nil ?_
              refine K.thn_normal ?_
              refine K.KW.ret ?_
              refine ⟨.inr rfl, rfl, (.bool true), K.res1 rfl rfl, [], ?_, hS.pick [1]⟩
              exact rfl
            ·
              exact absurd rfl h_30
          ·
            exact absurd h_18 h_24
end Go.Proofs.YtnehocjmgnhhhaaDoor
